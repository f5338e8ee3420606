import Derived.Test.YtmbihgjlollbeaaGreatNkP1
import Derived.Test.YtmbihgjlollbeaaGreatNwP2
namespace Go.Ab.Tt
set_option maxRecDepth 100000
set_option linter.unusedVariables false
set_option linter.unusedSimpArgs false
def bO(x:Path):Int×Int×Bool:=(x.a,x.b,x.free)
def A8(x:Int×Int×Bool):PV:=.agg [.int .i64 x.1,.int .i64 x.2.1,.bool x.2.2]
theorem KW(a b:Int×Int×Bool):dr (A8 a).cells (A8 b).cells=decide (a=b):=by obtain⟨a1,a2,a3⟩:=a;obtain⟨b1,b2,b3⟩:=b;rw[aiN];simp[A8,PV.cells,dr,peq]
def dm(l:List Path)(n:Int)(k:Nat):Int:=match l[k]? with
 |none=>0
 |some x=>if(decide (x.a<0)||decide (x.a≥n)||decide (x.b<0)||decide (x.b≥n)||decide (x.a=x.b))=true then 9 else if(decide (x.js<1)||decide (x.js>14400))=true then 2 else if bO x∈(l.map bO).take k then 6 else 0
theorem Pf(l:List Path)(n:Int)(hl:l.length≤maxLen):fl [.rs 4 (l.map Path.pv),.int .i64 n]=some (res (bL (dm l n) l.length).1 (bL (dm l n) l.length).2):=by
 have hm:=bI;simp only[fl,qA,ay,asInt,IS,U,ahj];rw[←nU];refine bK (fun k=>(n,l.map Path.pv,(l.length:Int),(k:Int),seen A8 ((l.map bO).take k),())) l.length _ (fun k hk rec=>?_) (fun rec=>?_) ?_ rfl
 ·have h1:(k:Int)<(l.length:Int):=by omega
  have rY:dE (.agg [.int .i64 l[k].a,.int .i64 l[k].b,.bool l[k].free]) (.bool true) (seen A8 ((l.map bO).take k))=_:=nV KW (bO l[k]) ((l.map bO).take k);have s9:cH (.agg [.int .i64 l[k].a,.int .i64 l[k].b,.bool l[k].free]) (.bool false) (seen A8 ((l.map bO).take k))=_:=lB KW (bO l[k]) ((l.map bO).take k);simp only[me,IL,h1,IS,aU,GP,cO hk,aff,U,KT,KU,Rc,KV,asInt,asBool,rY,s9,gE,aO (show k<9223372036854775807 by omega),qD bO l k hk];unfold dm;rw[cO hk];simp only;by_cases bQ:bO l[k]∈(l.map bO).take k
  ·simp only[bQ,IS];by_cases e1:l[k].a<0<;>by_cases e2:l[k].a≥n<;>by_cases e3:l[k].b<0<;>by_cases e4:l[k].b≥n<;>by_cases e5:l[k].a=l[k].b<;>by_cases e6:l[k].js<1<;>by_cases e7:l[k].js>14400<;>simp only[e1,e2,e3,e4,e5,e6,e7,ai2,aiS,Bool.or_true,alw,ak2,IS,T1,cT]<;>rfl
  ·simp only[bQ,T1,cT];by_cases e1:l[k].a<0<;>by_cases e2:l[k].a≥n<;>by_cases e3:l[k].b<0<;>by_cases e4:l[k].b≥n<;>by_cases e5:l[k].a=l[k].b<;>by_cases e6:l[k].js<1<;>by_cases e7:l[k].js>14400<;>simp only[e1,e2,e3,e4,e5,e6,e7,ai2,aiS,Bool.or_true,alw,ak2,IS,T1,cT]<;>rfl
 ·simp only[me,IL,ajJ,T1];rfl
 ·have:=bp;omega
def toFp(p:Path):Nw.Fp:=⟨p.a.toNat,p.b.toNat,p.js.toNat,p.free⟩
def Sound(l:List Path)(n:Nat):Prop:=∀p∈l,0≤p.a∧p.a<n∧0≤p.b∧p.b<n∧1≤p.js∧p.js≤14400
variable{l:List Path}{n:Nat}
theorem KX(h:(bL (dm l n) l.length).2=0):Sound l n:=by
 intro p hp;obtain⟨k,hk,rfl⟩:=ajM hp;have h0:=(kP _ _).1 h k hk;unfold dm at h0;rw[cO hk]at h0;simp only at h0;by_cases c1:(decide (l[k].a<0)||decide (l[k].a≥n)||decide (l[k].b<0)||decide (l[k].b≥n)||decide (l[k].a=l[k].b))=true
 ·rw[AI c1]at h0;omega
 ·rw[By c1]at h0;by_cases c2:(decide (l[k].js<1)||decide (l[k].js>14400))=true
  ·rw[AI c2]at h0;omega
  ·simp only[aiI,IL]at c1 c2;omega
theorem toFp_pv{p:Path}(h1:0≤p.a)(h2:0≤p.b)(h3:1≤p.js):(toFp p).pv=p.pv:=by simp only[toFp,Nw.Fp.pv,Path.pv];rw[aki h1,aki h2,aki (by omega)]
theorem VI(h:Sound l n):(l.map toFp).map Nw.Fp.pv=l.map Path.pv:=by rw[akt];apply ai7;intro p hp;exact toFp_pv (h p hp).1 (h p hp).2.2.1 (h p hp).2.2.2.2.1
def Rg(e:List PV):Path:=match e with|[.int .i64 a,.int .i64 b,.int .i64 s,.bool f]=>⟨a,b,s,f⟩|_=>⟨0,0,0,false⟩
theorem EE:∀(L:List (List PV)),(∀e∈L,Nw.IsF e)→eh L=(L.map Rg).map Path.pv
 |[],_=>rfl
 |e::L,h=>by obtain⟨i,k,s,b,rfl⟩:=h e (by simp);have:=EE L fun x hx=>h x (by simp[hx]);unfold eh at this⊢;rw[aiL,aiL,aiL,this];rfl
def iw(l:List Path)(n:Nat):List Path:=(Nw.Fq n (Nw.q7 n (l.map toFp) false) (Nw.q7 n (l.map toFp) true)).map Rg
theorem GA(hn:n≤64)(hl:l.length≤4096)(h:Sound l n):eg [.rs 4 (l.map Path.pv),.int .i64 n]=some (.rs 4 ((iw l n).map Path.pv))∧fB [.rs 4 (l.map Path.pv),.int .i64 n]=some (.rs 4 ((iw l n).map Path.pv)):=by have:=Nw.Pg (l.map toFp) n hn (by simpa using hl) (fun p hp=>by obtain⟨q,hq,rfl⟩:=aiR.1 hp;have:=h q hq;simp only[toFp];omega);rw[VI h,EE _ (Nw.KY n _ _)]at this;exact this
theorem KZ(l:List Path)(n:Nat)(hn:n≤64):(iw l n).length≤8192:=by
 have h1:(iw l n).length=(eh (Nw.Fq n (Nw.q7 n (l.map toFp) false) (Nw.q7 n (l.map toFp) true))).length:=by simp[iw,eh]
 rw[h1,Nw.A9];have h2:=Nw.Ac (it:=fun i k=>Nw.Cw (Nw.q7 n (l.map toFp) false i k) (Nw.q7 n (l.map toFp) true i k) i k) (fun i k=>Nw.Iu _ _ i k) n n;have h3:2*n*n≤2*64*64:=aks (ajL 2 hn) hn;omega
theorem K0(x y:Path):dr [cell x.pv 0,cell x.pv 1,cell x.pv 2,cell x.pv 3] [cell y.pv 0,cell y.pv 1,cell y.pv 2,cell y.pv 3]=decide (x=y):=by rw[aiN];obtain⟨a,b,c,d⟩:=x;obtain⟨a',b',c',d'⟩:=y;simp[KT,KU,Rc,KV,dr,peq]
theorem Ad(x:Path):jc (Kd.int IntKind.i64::[].append (Kd.int IntKind.i64::[].append (Kd.int IntKind.i64::[].append (Kd.bool::[].append [])))) [cell x.pv 0,cell x.pv 1,cell x.pv 2,cell x.pv 3]=true:=rfl
def mf(l:List Path)(n:Nat):Bool:=decide (iw l n=l)
theorem K1(hn:n≤64)(hl:l.length≤4096)(h:(bL (dm l n) l.length).2=0):eX [.rs 4 (l.map Path.pv),.int .i64 n]=some (.bool (mf l n)):=by
 have hm:4096≤maxLen:=by decide
 have hs:=Pf l n (by omega);have hf:=SR _ _ h;rw[h,hf]at hs;have hc:=(GA hn hl (KX h)).1;have uU:=KZ l n hn;have vf:¬decide ((n:Int)>64)=true:=by simp;omega
 have h0:¬(0:Int)>(n:Int):=by omega
 simp only[eX,l0,ay,asInt,IS,U];rw[By vf,hs];simp only[res,bg,aiV,aji,Nat.reduceAdd,IS,U,ai6,ai5,asInt,By h0,hc,ay,ahj];rw[By (by decide)];unfold mf;by_cases hlen:(iw l n).length=l.length
 ·rw[By (by simp[nR,hlen])];have hr:=Rf (iw l n) l hlen (some (PV.bool false)) (some (PV.bool true));have:some (PV.bool (decide (iw l n=l)))=if iw l n=l then some (PV.bool true)else some (PV.bool false):=by by_cases hc:iw l n=l<;>simp[hc]
  rw[this,←hr];refine bK (fun k=>(l.map Path.pv,(iw l n).map Path.pv,((iw l n).length:Int),(k:Int),())) (iw l n).length _ (fun k hk rec=>?_) (fun rec=>?_) ?_ rfl
  ·have h1:decide ((k:Int)<((iw l n).length:Int))=true:=by simp;omega
   have pX:k<l.length:=by omega
   unfold jt;dsimp only;rw[AI h1,aU,GP,cO hk,aU,GP,cO pX];simp only[aff,U];rw[AI ⟨Ad _,Ad _⟩,K0,aO (by omega)];by_cases he:(iw l n)[k]=l[k]
   ·simp[he,fK]
   ·simp[he,fK]
  ·unfold jt;dsimp only;rw[By (by simp)]
  ·have:=bp;omega
 ·rw[AI (by simp[nR];omega)];rw[aj8 (fun hc=>hlen (by rw[hc]))]
def cM(l:List Path)(n:Nat):Int×Int:=if(bL (dm l n) l.length).2=0 then(if mf l n=true then(0,0)else(0,18))else bL (dm l n) l.length
def sl(x:Int×Int×Bool):PV:=.agg [.int .i64 x.1,.int .i64 x.2.1,.int .i64 0,.bool x.2.2]
theorem adr(a b:Int×Int×Bool):dr (sl a).cells (sl b).cells=decide (a=b):=by obtain⟨a1,a2,a3⟩:=a;obtain⟨b1,b2,b3⟩:=b;rw[aiN];simp[sl,PV.cells,dr,peq]
theorem Cg(N:aR)(l:List Path)(n:Nat)(hl:l.length≤4096)(hlen:(N.stops.map Stop.pv).length=n)(k:Nat)(hk:k<l.length)(rec:X8→Option PV):cB (l.map Path.pv,(l.length:Int),(k:Int),N.stops.map Stop.pv,N.aD.map aV.pv,N.runs.map fP.pv,N.bh.map bE.pv,l.map Path.pv,N.ba.map bJ.pv,N.bY,N.within,N.cap,0,0,0,seen sl ((l.map bO).take k),()) rec=fK (if dm l n k=0 then none else some (some (r3 4 k (dm l n k)))) (rec (l.map Path.pv,(l.length:Int),((k+1:Nat):Int),N.stops.map Stop.pv,N.aD.map aV.pv,N.runs.map fP.pv,N.bh.map bE.pv,l.map Path.pv,N.ba.map bJ.pv,N.bY,N.within,N.cap,0,0,0,seen sl ((l.map bO).take (k+1)),())):=by
 have h1:decide ((k:Int)<(l.length:Int))=true:=by simp;omega
 have rY:dE (.agg [.int .i64 l[k].a,.int .i64 l[k].b,.int .i64 0,.bool l[k].free]) (.bool true) (seen sl ((l.map bO).take k))=_:=nV adr (bO l[k]) ((l.map bO).take k);have s9:cH (.agg [.int .i64 l[k].a,.int .i64 l[k].b,.int .i64 0,.bool l[k].free]) (.bool false) (seen sl ((l.map bO).take k))=_:=lB adr (bO l[k]) ((l.map bO).take k);unfold cB;dsimp only;rw[AI h1,aU,GP,cO hk,hlen];simp only[aff,U,KT,KU,Rc,KV,asInt,asBool,IS,yJ,cu,gE,rY,s9,ED,Re,tb,xV,Cv,qD bO l k hk,aO (show k<9223372036854775807 by omega)];have hA:(!(decide (l[k].a≥0)&&decide (l[k].a<(n:Int)))|| !(decide (l[k].b≥0)&&decide (l[k].b<(n:Int)))||decide (l[k].a=l[k].b))=(decide (l[k].a<0)||decide (l[k].a≥(n:Int))||decide (l[k].b<0)||decide (l[k].b≥(n:Int))||decide (l[k].a=l[k].b)):=by rw[aiN];simp only[aiI,aiT,ajn,IL,aiQ];omega
 rw[hA];unfold dm;rw[cO hk];simp only;generalize (decide (l[k].a<0)||decide (l[k].a≥(n:Int))||decide (l[k].b<0)||decide (l[k].b≥(n:Int))||decide (l[k].a=l[k].b))=A;generalize (decide (l[k].js<1)||decide (l[k].js>14400))=B;by_cases bQ:bO l[k]∈(l.map bO).take k
 ·simp only[bQ,IS];cases A<;>cases B<;>rfl
 ·simp only[bQ,T1];cases A<;>cases B<;>rfl
theorem Fs(N:aR)(hn:N.stops.length≤64)(hl:N.paths.length≤4096):cg [N.pv]=some (prt 4 (cM N.paths N.stops.length)):=by
 have hm:4096≤maxLen:=by decide
 simp only[cg,kT,zI,zJ,zK,zL,zM,zN,zO,zP,zQ,zR,U,ahj];generalize Mm:N.paths=l at hl⊢;generalize RU:N.stops.length=n at hn⊢;have hlen:(N.stops.map Stop.pv).length=n:=by simpa using RU
 have hg:=iE (dm l n) l.length (fun i e=>r3 4 i e) (some (if mf l n=true then r3 0 0 0 else r3 4 0 18));have hR:some (prt 4 (cM l n))=if(bL (dm l n) l.length).2=0 then some (if mf l n=true then r3 0 0 0 else r3 4 0 18)else some (r3 4 (bL (dm l n) l.length).1 (bL (dm l n) l.length).2):=by
  unfold cM prt;by_cases h:(bL (dm l n) l.length).2=0
  ·rw[AI h,AI h];cases mf l n<;>rfl
  ·rw[By h,By h,By h]
 rw[hR,←hg];by_cases hz:(bL (dm l n) l.length).2=0
 ·refine bK (fun k=>(l.map Path.pv,(l.length:Int),(k:Int),N.stops.map Stop.pv,N.aD.map aV.pv,N.runs.map fP.pv,N.bh.map bE.pv,l.map Path.pv,N.ba.map bJ.pv,N.bY,N.within,N.cap,0,0,0,seen sl ((l.map bO).take k),())) l.length _ (fun k hk rec=>Cg N l n hl hlen k hk rec) (fun rec=>?_) ?_ rfl
  ·unfold cB;dsimp only;rw[By (by simp),hlen,K1 hn hl hz];simp only[U,asBool,ED,Re,tb,xV,Cv];cases mf l n<;>rfl
  ·have:=bp;omega
 ·have vw:=bK (body:=cB) (fun k=>(l.map Path.pv,(l.length:Int),(k:Int),N.stops.map Stop.pv,N.aD.map aV.pv,N.runs.map fP.pv,N.bh.map bE.pv,l.map Path.pv,N.ba.map bJ.pv,N.bY,N.within,N.cap,0,0,0,seen sl ((l.map bO).take k),())) l.length _ (fin:=cB (l.map Path.pv,(l.length:Int),(l.length:Int),N.stops.map Stop.pv,N.aD.map aV.pv,N.runs.map fP.pv,N.bh.map bE.pv,l.map Path.pv,N.ba.map bJ.pv,N.bY,N.within,N.cap,0,0,0,seen sl ((l.map bO).take l.length),()) fun _=>none) (fun k hk rec=>Cg N l n hl hlen k hk rec) (fun rec=>?_) (by have:=bp;omega) (s0:=(l.map Path.pv,(l.length:Int),0,N.stops.map Stop.pv,N.aD.map aV.pv,N.runs.map fP.pv,N.bh.map bE.pv,l.map Path.pv,N.ba.map bJ.pv,N.bY,N.within,N.cap,0,0,0,[],())) rfl
  ·rw[vw,iE,iE,By hz,By hz]
  ·unfold cB;dsimp only;rw[By (by simp),By (by simp)]
theorem Iv(N:aR)(l:List Path)(hl:l.length≤4096)(i:Nat)(hi:i<l.length)(er:SS→Option PV):bl.run (mh er) ((i:Int),0,N.stops.map Stop.pv,N.aD.map aV.pv,N.runs.map fP.pv,N.bh.map bE.pv,l.map Path.pv,N.ba.map bJ.pv,N.bY,N.within,N.cap,.int .i64 l[i].a,.int .i64 l[i].b,.int .i64 l[i].js,.bool l[i].free,())=if bO l[i]∈(l.map bO).take i then some (res i 6)else er (IntKind.i64.wrap ((i:Int)+1),N.stops.map Stop.pv,N.aD.map aV.pv,N.runs.map fP.pv,N.bh.map bE.pv,l.map Path.pv,N.ba.map bJ.pv,N.bY,N.within,N.cap,()):=by
 have hm:4096≤maxLen:=by decide
 refine(ta (fun k=>((i:Int),(k:Int),N.stops.map Stop.pv,N.aD.map aV.pv,N.runs.map fP.pv,N.bh.map bE.pv,l.map Path.pv,N.ba.map bJ.pv,N.bY,N.within,N.cap,PV.int .i64 l[i].a,PV.int .i64 l[i].b,PV.int .i64 l[i].js,PV.bool l[i].free,())) i (fun k=>decide ((l.map bO)[k]?=some (bO l[i]))) (no:=some (res i 6)) (fin:=er (IntKind.i64.wrap ((i:Int)+1),N.stops.map Stop.pv,N.aD.map aV.pv,N.runs.map fP.pv,N.bh.map bE.pv,l.map Path.pv,N.ba.map bJ.pv,N.bY,N.within,N.cap,())) (fun k hk rec=>?_) (fun rec=>?_) ?_ rfl).trans ?_
 ·have h1:decide ((k:Int)<(i:Int))=true:=by simp;omega
  have pX:k<l.length:=by omega
  have hd:decide ((l.map bO)[k]?=some (bO l[i]))=(decide (l[k].a=l[i].a)&&decide (l[k].b=l[i].b)&&decide (l[k].free=l[i].free)):=by rw[aiN];simp[cO pX,bO,alu]
  rw[hd];unfold mh;dsimp only;rw[AI h1,aU,GP,cO pX];simp only[aff,U,KT,KU,KV,asInt,asBool,IS,aO (show k<9223372036854775807 by omega),gE,ig];rfl
 ·unfold mh;dsimp only;rw[By (by simp)]
 ·have:=bp;omega
 ·rw[CS _ _ (by simp;omega)];simp only[IL]
theorem SU(N:aR)(hn:N.stops.length≤64)(hl:N.paths.length≤4096):kx [N.pv]=some (res (cM N.paths N.stops.length).1 (cM N.paths N.stops.length).2):=by
 have hm:4096≤maxLen:=by decide
 simp only[kx,we,zI,zJ,zK,zL,zM,zN,zO,zP,zQ,zR,U];generalize Mm:N.paths=l at hl⊢;generalize RU:N.stops.length=n at hn⊢;have hlen:(N.stops.map Stop.pv).length=n:=by simpa using RU
 have hw:IntKind.i64.wrap ((n:Int)-1)=(n:Int)-1:=dU (by omega) (by omega);have VJ:∀k,(hk:k<l.length)→∀rec,fC bl ((k:Int),N.stops.map Stop.pv,N.aD.map aV.pv,N.runs.map fP.pv,N.bh.map bE.pv,l.map Path.pv,N.ba.map bJ.pv,N.bY,N.within,N.cap,()) rec=fK (if dm l n k=0 then none else some (some (res k (dm l n k)))) (rec (((k+1:Nat):Int),N.stops.map Stop.pv,N.aD.map aV.pv,N.runs.map fP.pv,N.bh.map bE.pv,l.map Path.pv,N.ba.map bJ.pv,N.bY,N.within,N.cap,())):=by
  intro k hk rec;have h1:decide ((k:Int)<((l.map Path.pv).length:Int))=true:=by simp;omega
  have uW:=Iv N l hl k hk rec;unfold fC;dsimp only;rw[AI h1,aU,GP,cO hk,hlen,hw];simp only[aff,U,KT,KU,Rc,KV,asInt,asBool,IS,EB,cu,gE,uW,aO (show k<9223372036854775807 by omega)];have hA:(!(decide (l[k].a≥0)&&decide (l[k].a≤(n:Int)-1))|| !(decide (l[k].b≥0)&&decide (l[k].b≤(n:Int)-1))||decide (l[k].a=l[k].b))=(decide (l[k].a<0)||decide (l[k].a≥(n:Int))||decide (l[k].b<0)||decide (l[k].b≥(n:Int))||decide (l[k].a=l[k].b)):=by rw[aiN];simp only[aiI,aiT,ajn,IL,aiQ];omega
  have hB:(!(decide (l[k].js≥1)&&decide (l[k].js≤14400)))=(decide (l[k].js<1)||decide (l[k].js>14400)):=by rw[aiN];simp only[aiI,aiT,ajn,IL,aiQ];omega
  rw[hA,hB];unfold dm;rw[cO hk];simp only;generalize (decide (l[k].a<0)||decide (l[k].a≥(n:Int))||decide (l[k].b<0)||decide (l[k].b≥(n:Int))||decide (l[k].a=l[k].b))=A;generalize (decide (l[k].js<1)||decide (l[k].js>14400))=B;by_cases bQ:bO l[k]∈(l.map bO).take k
  ·simp only[bQ,IS];cases A<;>cases B<;>rfl
  ·simp only[bQ,T1];cases A<;>cases B<;>rfl
 have hg:=iE (dm l n) l.length (fun i e=>res i e) (some (if mf l n=true then res 0 0 else res 0 18));have hR:some (res (cM l n).1 (cM l n).2)=if(bL (dm l n) l.length).2=0 then some (if mf l n=true then res 0 0 else res 0 18)else some (res (bL (dm l n) l.length).1 (bL (dm l n) l.length).2):=by
  unfold cM;by_cases h:(bL (dm l n) l.length).2=0
  ·rw[AI h,AI h];cases mf l n<;>rfl
  ·rw[By h,By h]
 rw[hR,←hg];by_cases hz:(bL (dm l n) l.length).2=0
 ·refine bK (fun k=>((k:Int),N.stops.map Stop.pv,N.aD.map aV.pv,N.runs.map fP.pv,N.bh.map bE.pv,l.map Path.pv,N.ba.map bJ.pv,N.bY,N.within,N.cap,())) l.length _ VJ (fun rec=>?_) ?_ rfl
  ·have hc:=(GA hn hl (KX hz)).2;have uU:=KZ l n hn;unfold fC;dsimp only;rw[By (by simp),hlen,hc];simp only[U,ay,IS,ahj];unfold mf;by_cases VK:(iw l n).length=l.length
   ·rw[By (by simp[nR,VK])];have hr:=Rf (iw l n) l VK (some (res 0 18)) (some (res 0 0));have:some (if decide (iw l n=l)=true then res 0 0 else res 0 18)=if iw l n=l then some (res 0 0)else some (res 0 18):=by by_cases hc:iw l n=l<;>simp[hc]
    rw[this,←hr];refine bK (fun k=>((iw l n).map Path.pv,(k:Int),N.stops.map Stop.pv,N.aD.map aV.pv,N.runs.map fP.pv,N.bh.map bE.pv,l.map Path.pv,N.ba.map bJ.pv,N.bY,N.within,N.cap,())) (iw l n).length _ (fun k hk rec=>?_) (fun rec=>?_) ?_ rfl
    ·have h1:decide ((k:Int)<(((iw l n).map Path.pv).length:Int))=true:=by simp;omega
     have pX:k<l.length:=by omega
     unfold qJ;dsimp only;rw[AI h1,aU,GP,cO hk,aU,GP,cO pX];simp only[aff,U];rw[AI ⟨Ad _,Ad _⟩,K0,aO (by omega)];by_cases he:(iw l n)[k]=l[k]
     ·simp[he,fK]
     ·simp[he,fK,res]
    ·unfold qJ;dsimp only;rw[By (by simp)];rfl
    ·have:=bp;omega
   ·rw[AI (by simp[nR];omega)];rw[aj8 (fun hc=>VK (by rw[hc]))];rfl
  ·have:=bp;omega
 ·have vw:=bK (body:=fC bl) (fun k=>((k:Int),N.stops.map Stop.pv,N.aD.map aV.pv,N.runs.map fP.pv,N.bh.map bE.pv,l.map Path.pv,N.ba.map bJ.pv,N.bY,N.within,N.cap,())) l.length _ (fin:=fC bl ((l.length:Int),N.stops.map Stop.pv,N.aD.map aV.pv,N.runs.map fP.pv,N.bh.map bE.pv,l.map Path.pv,N.ba.map bJ.pv,N.bY,N.within,N.cap,()) fun _=>none) VJ (fun rec=>?_) (by have:=bp;omega) (s0:=(0,N.stops.map Stop.pv,N.aD.map aV.pv,N.runs.map fP.pv,N.bh.map bE.pv,l.map Path.pv,N.ba.map bJ.pv,N.bY,N.within,N.cap,())) rfl
  ·rw[vw,iE,iE,By hz,By hz]
  ·unfold fC;dsimp only;rw[By (by simp),By (by simp)]
def fD(x:fP):Bytes×Int×Int:=(x.id,x.day,x.inst)
def K2(x:Bytes×Int×Int):PV:=.agg [.str x.1,.int .i64 x.2.1,.int .i64 x.2.2]
theorem VL(a b:Bytes×Int×Int):dr (K2 a).cells (K2 b).cells=decide (a=b):=by obtain⟨a1,a2,a3⟩:=a;obtain⟨b1,b2,b3⟩:=b;rw[aiN];simp[K2,PV.cells,dr,peq]
def jm(l:List fP)(stops aD:Int)(k:Nat):Int:=match l[k]? with
 |none=>0
 |some x=>if ic x.id=false then 12 else if(decide (x.A7< -1)||decide (x.inst<0))=true then 2 else if(decide (x.day<0)||decide (x.day>36524))=true then 11 else if(decide (x.lz<0)||decide (x.lz≥aD))=true then 9 else if(jG x.calls stops 0 3155932800).2=0 then(if fD x∈(l.map fD).take k then 6 else 0)else(jG x.calls stops 0 3155932800).2
def pg(l:List fP)(stops aD:Int):Int×Int:=if l.length>1024 then(0,5)else bL (jm l stops aD) l.length
theorem Ph(N:aR)(l:List fP)(hl:l.length≤maxLen∧∀y∈l,y.Ok)(k:Nat)(hk:k<l.length)(rec:X8→Option PV):ga (l.map fP.pv,(l.length:Int),(k:Int),N.stops.map Stop.pv,N.aD.map aV.pv,l.map fP.pv,N.bh.map bE.pv,N.paths.map Path.pv,N.ba.map bJ.pv,N.bY,N.within,N.cap,0,0,0,seen K2 ((l.map fD).take k),()) rec=fK (if jm l N.stops.length N.aD.length k=0 then none else some (some (r3 2 k (jm l N.stops.length N.aD.length k)))) (rec (l.map fP.pv,(l.length:Int),((k+1:Nat):Int),N.stops.map Stop.pv,N.aD.map aV.pv,l.map fP.pv,N.bh.map bE.pv,N.paths.map Path.pv,N.ba.map bJ.pv,N.bY,N.within,N.cap,0,0,0,seen K2 ((l.map fD).take (k+1)),())):=by
 have hm:=bI;have h1:decide ((k:Int)<(l.length:Int))=true:=by simp;omega
 have hO:=hl.2 _ (aiZ hk);have hid:=Aa l[k].id hO.id;have zC:=SP l[k].calls N.stops.length 0 3155932800 hO.calls.1;simp only[res]at zC;have rY:dE (.agg [.str l[k].id,.int .i64 l[k].day,.int .i64 l[k].inst]) (.bool true) (seen K2 ((l.map fD).take k))=_:=nV VL (fD l[k]) ((l.map fD).take k);have s9:cH (.agg [.str l[k].id,.int .i64 l[k].day,.int .i64 l[k].inst]) (.bool false) (seen K2 ((l.map fD).take k))=_:=lB VL (fD l[k]) ((l.map fD).take k);unfold ga;dsimp only;rw[AI h1,aU,GP,cO hk];simp only[aff,U,aaE,XU,XV,XW,aaF,Vk,aG,asInt,asBool,ay,IS,ahj,hid,zC,bg,aiV,aji,Nat.reduceAdd,ai6,ai5,cu,nR,rY,s9,ED,Re,tb,xV,Cv,qD fD l k hk,aO (show k<9223372036854775807 by omega)];unfold jm;rw[cO hk];simp only;generalize (decide (l[k].A7< -1)||decide (l[k].inst<0))=A;generalize (decide (l[k].day<0)||decide (l[k].day>36524))=B;generalize (decide (l[k].lz<0)||decide (l[k].lz≥(N.aD.length:Int)))=C;generalize (jG l[k].calls N.stops.length 0 3155932800).2=e;cases ic l[k].id with
 |false=>rfl
 |true=>
  cases A with
  |true=>rfl
  |false=>
   cases B with
   |true=>rfl
   |false=>
    cases C with
    |true=>rfl
    |false=>
     simp only[aiK,cT,ai3,T1];by_cases he:e=0
     ·subst he;by_cases bQ:fD l[k]∈(l.map fD).take k
      ·simp only[bQ,IS,ai2,aiK,cT,T1];rfl
      ·simp only[bQ,IS,ai2,aiS,aiK,cT,T1];rfl
     ·simp only[he,T1,IS,aiS,ai4];rfl
theorem Iw(N:aR)(hl:N.runs.length≤maxLen∧∀y∈N.runs,y.Ok):eY [N.pv]=some (prt 2 (pg N.runs N.stops.length N.aD.length)):=by
 have hm:=bI;simp only[eY,l5,zI,zJ,zK,zL,zM,zN,zO,zP,zQ,zR,U,ahj];generalize Mm:N.runs=l at hl⊢;unfold pg;by_cases vf:l.length>1024
 ·rw[AI (by simp;omega),AI vf];rfl
 ·rw[By (by simp;omega),By vf];have hR:some (prt 2 (bL (jm l N.stops.length N.aD.length) l.length))=if(bL (jm l N.stops.length N.aD.length) l.length).2=0 then some (r3 0 0 0)else some (r3 2 (bL (jm l N.stops.length N.aD.length) l.length).1 (bL (jm l N.stops.length N.aD.length) l.length).2):=by
   unfold prt;by_cases h:(bL (jm l N.stops.length N.aD.length) l.length).2=0
   ·rw[AI h,AI h]
   ·rw[By h,By h]
  rw[hR,←iE (jm l N.stops.length N.aD.length) l.length (fun i e=>r3 2 i e)];refine bK (fun k=>(l.map fP.pv,(l.length:Int),(k:Int),N.stops.map Stop.pv,N.aD.map aV.pv,l.map fP.pv,N.bh.map bE.pv,N.paths.map Path.pv,N.ba.map bJ.pv,N.bY,N.within,N.cap,0,0,0,seen K2 ((l.map fD).take k),())) l.length _ (fun k hk rec=>Ph N l hl k hk rec) (fun rec=>?_) ?_ rfl
  ·unfold ga;dsimp only;rw[By (by simp)];rfl
  ·have:=bp;omega
theorem Pj(N:aR)(l:List fP)(hl:l.length≤maxLen)(i:Nat)(hi:i<l.length):bl.run pj ((i:Int),0,N.stops.map Stop.pv,N.aD.map aV.pv,l.map fP.pv,N.bh.map bE.pv,N.paths.map Path.pv,N.ba.map bJ.pv,N.bY,N.within,N.cap,.int .i64 l[i].A7,.int .i64 l[i].day,.int .i64 l[i].inst,.str l[i].id,.int .i64 l[i].lz,.bool l[i].free,.bool l[i].X7,.rs 5 (l[i].calls.map gq.pv),())=if fD l[i]∈(l.map fD).take i then some (.int .i64 6)else some (.int .i64 0):=by
 have hm:=bI;refine(ta (fun k=>((i:Int),(k:Int),N.stops.map Stop.pv,N.aD.map aV.pv,l.map fP.pv,N.bh.map bE.pv,N.paths.map Path.pv,N.ba.map bJ.pv,N.bY,N.within,N.cap,PV.int .i64 l[i].A7,PV.int .i64 l[i].day,PV.int .i64 l[i].inst,PV.str l[i].id,PV.int .i64 l[i].lz,PV.bool l[i].free,PV.bool l[i].X7,PV.rs 5 (l[i].calls.map gq.pv),())) i (fun k=>decide ((l.map fD)[k]?=some (fD l[i]))) (no:=some (.int .i64 6)) (fin:=some (.int .i64 0)) (fun k hk rec=>?_) (fun rec=>?_) ?_ rfl).trans ?_
 ·have h1:decide ((k:Int)<(i:Int))=true:=by simp;omega
  have pX:k<l.length:=by omega
  have hd:decide ((l.map fD)[k]?=some (fD l[i]))=(decide (l[k].id=l[i].id)&&decide (l[k].day=l[i].day)&&decide (l[k].inst=l[i].inst)):=by rw[aiN];simp[cO pX,fD,alu]
  rw[hd];unfold pj;dsimp only;rw[AI h1,aU,GP,cO pX];simp only[aff,U,XU,XV,XW,asInt,aG,IS,aO (show k<9223372036854775807 by omega),gE,ig]
 ·unfold pj;dsimp only;rw[By (by simp)]
 ·have:=bp;omega
 ·rw[CS _ _ (by simp;omega)];simp only[IL]
theorem X9(N:aR)(hl:N.runs.length≤maxLen∧∀y∈N.runs,y.Ok)(k:Nat)(hk:k<N.runs.length):nW [N.pv,.int .i64 k]=some (.int .i64 (jm N.runs N.stops.length N.aD.length k)):=by
 have hm:=bI;have hO:=hl.2 _ (aiZ hk);simp only[nW,A5,zI,zJ,zK,zL,zM,zN,zO,zP,zQ,zR,U];generalize Mm:N.runs=l at hl hk hO⊢;have hO':l[k].Ok:=by subst Mm;exact hO
 have hid:=tV l[k].id hO'.id;have zC:=SQ l[k].calls N.stops.length 0 3155932800 hO'.calls.1;have uW:=Pj N l hl.1 k hk;simp only[asInt,IS,U,aU,GP,cO hk,aff,aaE,XU,XV,XW,aaF,adi,adj,Vk,aG,asBool,ay,ahj,hid,zC,EB,cu,nR,uW];unfold jm;rw[cO hk];simp only;have hB:(!(decide (l[k].day≥0)&&decide (l[k].day≤36524)))=(decide (l[k].day<0)||decide (l[k].day>36524)):=by rw[aiN];simp only[aiI,aiT,ajn,IL,aiQ];omega
 rw[hB];generalize (decide (l[k].A7< -1)||decide (l[k].inst<0))=A;generalize (decide (l[k].day<0)||decide (l[k].day>36524))=B;generalize (decide (l[k].lz<0)||decide (l[k].lz≥(N.aD.length:Int)))=C;generalize (jG l[k].calls N.stops.length 0 3155932800).2=e;cases ic l[k].id with
 |false=>rfl
 |true=>
  cases A with
  |true=>rfl
  |false=>
   cases B with
   |true=>rfl
   |false=>
    cases C with
    |true=>rfl
    |false=>
     simp only[aiK,cT,ai3,T1];by_cases he:e=0
     ·subst he;by_cases bQ:fD l[k]∈(l.map fD).take k
      ·simp only[bQ,IS,ai2,aiK,cT,T1]
      ·simp only[bQ,IS,ai2,aiK,cT,T1]
     ·simp only[he,T1,IS,aiS,ai4]
def nx(p:List bE)(v:Int):Option Int:=p.foldl (fun o x=>if(x.stay&&decide (x.a=v))=true then some x.b else o) none
theorem aaL(v:Int):nx [] v=none:=rfl
theorem tW(p:List bE)(x:bE)(v:Int):nx (p++[x]) v=if(x.stay&&decide (x.a=v))=true then some x.b else nx p v:=by unfold nx;rw[List.foldl_append];rfl
def it(f:Int→Option Int):Nat→Int→Option Int
 |0,v=>some v
 |m+1,v=>(f v).bind (it f m)
theorem Rh(f:Int→Option Int)(m:Nat)(v:Int):it f (m+1) v=(it f m v).bind f:=by
 induction m generalizing v with
 |zero=>show(f v).bind (it f 0)=f v;cases h:f v<;>rfl
 |succ m ih=>
  show(f v).bind (it f (m+1))=((f v).bind (it f m)).bind f;cases h:f v with
  |none=>rfl
  |some w=>exact ih w
def qK(p:List bE)(a b:Int)(n:Nat):Bool:=(List.range n).any fun t=>decide (it (nx p) (t+1) a=some b)
def yK(f:Int→Option Int):Prop:=∃r:Int→Nat,∀v w,f v=some w→r w<r v
theorem Pk:yK (nx []):=⟨fun _=>0,fun v w h=>by cases h⟩
variable{p:List bE}
theorem VM{v w:Int}(h:nx p v=some w):∃x∈p,x.stay=true∧x.a=v∧x.b=w:=by
 have key:∀n,n≤p.length→nx (p.take n) v=some w→∃x∈p,x.stay=true∧x.a=v∧x.b=w:=by
  intro n;induction n with
  |zero=>intro _ h;cases h
  |succ n ih=>
   intro hn h;have RU:n<p.length:=by omega
   rw[ai8 RU,tW]at h;by_cases hc:(p[n].stay&&decide (p[n].a=v))=true
   ·rw[AI hc]at h;simp only[No,IL]at hc;exact⟨p[n],aiZ RU,hc.1,hc.2,by simpa using h⟩
   ·rw[By hc]at h;exact ih (by omega) h
 exact key p.length (aiJ _) (by rw[ajy];exact h)
theorem Pl{f:Int→Option Int}(hf:yK f)(S:List Int)(hS:∀v w,f v=some w→v∈S):∀m v,it f m v≠none→m≤S.length:=by
 obtain⟨r,hr⟩:=hf;induction hn:S.length generalizing S f r with
 |zero=>
  intro m v h;cases m with
  |zero=>omega
  |succ m=>
   exfalso;cases hfv:f v with
   |none=>exact h (by show(f v).bind _=none;rw[hfv];rfl)
   |some w=>have:=hS v w hfv;rw[List.length_eq_zero_iff.1 hn]at this;cases this
 |succ n ih=>
  intro m v h;cases m with
  |zero=>omega
  |succ m=>
   cases hfv:f v with
   |none=>exact absurd (by show(f v).bind _=none;rw[hfv];rfl) h
   |some w=>
    have hvS:=hS v w hfv;let g:Int→Option Int:=fun x=>if x=v then none else f x;have hg:∀x y,g x=some y→r y<r x:=fun x y Ya=>by
     by_cases hx:x=v
     ·simp[g,hx]at Ya
     ·simp only[g,hx,T1]at Ya;exact hr x y Ya
    have hgS:∀x y,g x=some y→x∈S.erase v:=fun x y Ya=>by
     by_cases hx:x=v
     ·simp[g,hx]at Ya
     ·simp only[g,hx,T1]at Ya;exact(List.mem_erase_of_ne hx).2 (hS x y Ya)
    have hlen:(S.erase v).length=n:=by rw[List.length_erase_of_mem hvS];omega
    have UL:∀k x,r x<r v→it g k x=it f k x:=by
     intro k;induction k with
     |zero=>intros;rfl
     |succ k ihk=>
      intro x hx;have hxv:x≠v:=fun h=>by subst h;omega
      show(g x).bind (it g k)=(f x).bind (it f k);have:g x=f x:=by simp[g,hxv]
      rw[this];cases hfx:f x with
      |none=>rfl
      |some y=>exact ihk y (by have:=hr x y hfx;omega)
    have hw:it f m w≠none:=by intro hc;apply h;show(f v).bind (it f m)=none;rw[hfv];exact hc
    have:=ih (S.erase v) hgS r hg hlen m w (by rw[UL m w (hr v w hfv)];exact hw);omega
theorem Ix(hp:yK (nx p)){m:Nat}(hm:p.length<m)(v:Int):it (nx p) m v=none:=by
 cases h:it (nx p) m v with
 |none=>rfl
 |some w=>have:=Pl hp (p.map bE.a) (fun x y Ya=>by obtain⟨l,h1,h2,h3,h4⟩:=VM Ya;exact aiR.2 ⟨l,h1,h3⟩) m v (by rw[h];exact fun h=>nomatch h);rw[ahj]at this;omega
theorem K3(hp:yK (nx p))(x:bE)(h:x.stay=false∨(x.a≠x.b∧nx p x.a=none∧qK p x.b x.a (p.length+1)=false)):yK (nx (p++[x])):=by
 cases hs:x.stay with
 |false=>obtain⟨r,hr⟩:=hp;refine⟨r,fun v w WR=>hr v w ?_⟩;rw[tW,hs,akf,By (by simp)]at WR;exact WR
 |true=>
  rw[hs]at h;rcases h with h|⟨sy,hna,VN⟩
  ·cases h
  have G9:=hp;obtain⟨r,hr⟩:=hp;have BV:∀t,it (nx p) (t+1) x.b≠some x.a:=by
   intro t ht;by_cases bT:t<p.length+1
   ·unfold qK at VN;rw[List.any_eq_false]at VN;exact VN t (by simpa using bT) (by simpa using ht)
   ·rw[Ix G9 (by omega)]at ht;cases ht
  let R:Int→Prop:=fun v=>∃t,it (nx p) t v=some x.a;have hRb:¬R x.b:=fun⟨t,ht⟩=>by
   cases t with
   |zero=>exact sy (by simpa[it]using ht.symm)
   |succ t=>exact BV t ht
  refine⟨fun v=>open Classical in if R v then r v+r x.b+1 else r v,fun v w WR=>?_⟩;rw[tW,hs,aj9]at WR;by_cases hv:x.a=v
  ·rw[AI (by simpa using hv)]at WR;simp only[cN]at WR;subst WR;have hRv:R v:=⟨0,by show some v=some x.a;rw[hv]⟩;show(open Classical in if R x.b then r x.b+r x.b+1 else r x.b)<(open Classical in if R v then r v+r x.b+1 else r v);rw[By hRb,AI hRv];omega
  ·rw[By (by simpa using hv)]at WR;have bT:=hr v w WR;show(open Classical in if R w then r w+r x.b+1 else r w)<(open Classical in if R v then r v+r x.b+1 else r v);by_cases hw:R w
   ·have hRv:R v:=by obtain⟨t,ht⟩:=hw;exact⟨t+1,by show(nx p v).bind (it (nx p) t)=some x.a;rw[WR];exact ht⟩
    rw[AI hw,AI hRv];omega
   ·rw[By hw];by_cases hRv:R v
    ·rw[AI hRv];omega
    ·rw[By hRv];exact bT
def rJ(a:Int):PV:=.int .i64 a
def cW(x:bE):Int×Int×Int×Int:=(x.a,x.ac,x.b,x.bc)
def K4(x:Int×Int×Int×Int):PV:=.agg [.int .i64 x.1,.int .i64 x.2.1,.int .i64 x.2.2.1,.int .i64 x.2.2.2]
theorem VO(a b:Int×Int×Int×Int):dr (K4 a).cells (K4 b).cells=decide (a=b):=by obtain⟨a1,a2,a3,a4⟩:=a;obtain⟨b1,b2,b3,b4⟩:=b;rw[aiN];simp[K4,PV.cells,dr,peq]
def xX(p:List bE):List (Int×PV):=p.foldl (fun m x=>if x.stay=true then yL x.a (.int .i64 x.b) m else m) []
theorem yM(p:List bE)(x:bE):xX (p++[x])=if x.stay=true then yL x.a (.int .i64 x.b) (xX p)else xX p:=by unfold xX;rw[List.foldl_append];rfl
def Pm(a:Int)(m:List (Int×PV)):Bool:=m.any fun x=>decide (a=x.1)
theorem Ri(a:Int):∀m,tp (rJ a) (uP rJ m)=Pm a m
 |[]=>rfl
 |(b,u)::r=>by have:=Ri a r;simp only[uP]at this;simp only[uP,aiL,tp,Pm,aka];rw[this];have:dr (rJ a).cells (rJ b).cells=decide (a=b):=Ae a b;rw[this];rfl
theorem K5(a b:Int)(v:PV):∀m,Pm a (yL b v m)=(decide (a=b)||Pm a m)
 |[]=>by simp[Pm,yL]
 |(c,u)::r=>by
  have:=K5 a b v r;simp only[Pm]at this⊢;by_cases h:b=c
  ·subst h;simp[yL]
  ·simp only[yL,h,T1,aka,this];cases decide (a=c)<;>simp
theorem EF{A:Type}{P:List A→Prop}(h0:P [])(h1:∀p x,P p→P (p++[x]))(l:List A):P l:=by
 have key:∀n,n≤l.length→P (l.take n):=by
  intro n;induction n with
  |zero=>intro _;rw[ajU];exact h0
  |succ n ih=>intro hn;rw[ai8 (show n<l.length by omega)];exact h1 _ _ (ih (by omega))
 have:=key l.length (aiJ _);rw[ajy]at this;exact this
theorem SV(p:List bE)(v:Int):wq v (.int .i64 0) (xX p)=.int .i64 ((nx p v).getD 0):=by
 induction p using EF with
 |h0=>rfl
 |h1 p x ih=>
  rw[yM,tW];cases hs:x.stay with
  |false=>rw[By (by simp),akf,By (by simp)];exact ih
  |true=>
   rw[AI rfl,Ba,aj9];by_cases h:x.a=v
   ·rw[AI h.symm,AI (by simpa using h)];rfl
   ·rw[By (fun hc=>h hc.symm),By (by simpa using h)];exact ih
theorem VP(p:List bE)(v:Int):Pm v (xX p)=(nx p v).isSome:=by
 induction p using EF with
 |h0=>rfl
 |h1 p x ih=>
  rw[yM,tW];cases hs:x.stay with
  |false=>rw[By (by simp),akf,By (by simp)];exact ih
  |true=>
   rw[AI rfl,K5,aj9];by_cases h:x.a=v
   ·rw[AI (by simpa using h)];simp[h]
   ·rw[By (by simpa using h),ih];have:decide (v=x.a)=false:=by simpa using fun hc=>h hc.symm
    rw[this,akm]
def nX(p:List bE):List (PV×PV):=uP rJ (xX p)
theorem yN(p:List bE)(v:Int):cH (.int .i64 v) (.int .i64 0) (nX p)=.int .i64 ((nx p v).getD 0):=by have:=EG (key:=rJ) Ae v (.int .i64 0) (xX p);rw[SV]at this;exact this
theorem Bb(p:List bE)(v:Int):tp (.int .i64 v) (nX p)=(nx p v).isSome:=by have:=Ri v (xX p);rw[VP]at this;exact this
theorem Pn(p:List bE)(x:bE):nX (p++[x])=if x.stay=true then dE (.int .i64 x.a) (.int .i64 x.b) (nX p)else nX p:=by
 have:=Iy (key:=rJ) Ae x.a (.int .i64 x.b) (xX p);unfold nX;rw[yM];by_cases h:x.stay=true
 ·rw[AI h,AI h];exact this.symm
 ·rw[By h,By h]
def mO(p:List bE):List Int:=(p.filter bE.stay).map bE.b
theorem Po(p:List bE)(x:bE):mO (p++[x])=if x.stay=true then mO p++[x.b]else mO p:=by unfold mO;by_cases h:x.stay=true<;>simp[akn,ajG,h]
theorem SX(p:List bE)(v:Int):(nx p v).isSome=p.any fun y=>y.stay&&decide (y.a=v):=by
 induction p using EF with
 |h0=>rfl
 |h1 p x ih=>
  rw[tW,alg,←ih];by_cases h:(x.stay&&decide (x.a=v))=true
  ·rw[AI h];simp only[aka,alA,h];simp
  ·rw[By h];simp only[aka,alA,h];simp
theorem VQ(p:List bE)(v:Int):decide (v∈mO p)=p.any fun y=>y.stay&&decide (y.b=v):=by
 rw[aiN,IL];simp only[mO,IL,aiR,aj1,aj5,No];constructor
 ·rintro⟨x,⟨h1,h2⟩,h3⟩;exact⟨x,h1,h2,h3⟩
 ·rintro⟨x,h1,h2,h3⟩;exact⟨x,⟨h1,h2⟩,h3⟩
def aaM(f:Int→Option Int)(a b:Int)(t:Nat):Option (Option PV):=(it f (t+1) a).elim (some (some (.bool false))) fun v=>if v=b then some (some (.bool true))else none
theorem Pp(f:Int→Option Int)(b:Int)(n:Nat):∀a,it f (n+1) a=none→fK ((List.range n).findSome? (aaM f a b)) (some (.bool false))=some (.bool ((List.range (n+1)).any fun t=>decide (it f (t+1) a=some b))):=by
 induction n with
 |zero=>intro a h;simp[fK,h]
 |succ n ih=>
  intro a h;rw[aj6 (n:=n+1),aj6 (n:=n),ajC,aka];have h0:it f (0+1) a=f a:=by show(f a).bind (it f 0)=f a;cases hf:f a<;>rfl
  unfold aaM;rw[h0];cases hf:f a with
  |none=>
   have hz:∀t,it f (t+1) a=none:=fun t=>by show(f a).bind _=none;rw[hf];rfl
   simp only[Option.elim,fK,List.any_map,akY,hz];simp
  |some v=>
   have hs:∀t,it f (t+1+1) a=it f (t+1) v:=fun t=>by show(f a).bind _=_;rw[hf];rfl
   by_cases hv:v=b
   ·subst hv;simp only[Option.elim,IS,fK,ai2,alw]
   ·have hd:decide (some v=some b)=false:=by simpa using hv
    simp only[Option.elim,By hv,hd,akm];have:=ih v (by rw[←hs];exact h);rw[List.findSome?_map,List.any_map];simp only[akY,Nat.succ_eq_add_one,hs];rw[←aj6];exact this
theorem Pq(p:List bE)(hp:yK (nx p))(hl:p.length≤maxLen)(a b:Int):iy [.rm 3 ((nX p).map fun x=>x.fst) ((nX p).map fun x=>x.snd),.int .i64 a,.int .i64 b]=some (.bool (qK p a b (p.length+1))):=by
 have hz:((nX p).map fun x=>x.fst).zip ((nX p).map fun x=>x.snd)=nX p:=by
  generalize nX p=m;induction m with
  |nil=>rfl
  |cons x m ih=>simp only[aiL,akR,ih]
 simp only[iy,se,df,IS,asInt,U,hz,yN,Bb];unfold qK;rw[←Pp (nx p) b p.length a (Ix hp (by omega) a)];refine bK (fun t=>(PV.rm 3 ((nX p).map fun x=>x.fst) ((nX p).map fun x=>x.snd),b,(it (nx p) (t+1) a).getD 0,(it (nx p) (t+1) a).isSome,())) p.length _ (fun t ht rec=>?_) (fun rec=>?_) (by have:=bp;omega) ?_
 ·unfold jI aaM;dsimp only;rw[Rh (nx p) (t+1) a];cases hv:it (nx p) (t+1) a with
  |none=>rfl
  |some v=>
   simp only[Option.isSome_some,aju,IS,gE,IL,Option.elim];by_cases Yb:v=b
   ·rw[AI Yb,AI Yb];rfl
   ·rw[By Yb,By Yb];simp only[df,IS,hz,yN,Bb,asInt,U,fK,aiH]
 ·unfold jI;dsimp only;rw[Ix hp (by omega)];rfl
 ·show(_,b,(it (nx p) 1 a).getD 0,(it (nx p) 1 a).isSome,())=_;have:it (nx p) 1 a=nx p a:=by show(nx p a).bind _=_;cases nx p a<;>rfl
  rw[this]
def br(runs:List fP)(a:Int):List gq:=((runs[a.toNat]?).map fP.calls).getD []
def wu(cs:List gq)(c:Int):Int:=((cs[c.toNat]?).map gq.stop).getD 0
def EH(x:bE)(R:Int):Bool:= !(decide (x.a≥0)&&decide (x.a<R))|| !(decide (x.b≥0)&&decide (x.b<R))||decide (x.a=x.b)
def Ch(x:bE)(A B:Int):Bool:= !(decide (x.ac≥0)&&decide (x.ac<A))|| !(decide (x.bc≥0)&&decide (x.bc<B))
def Ci(p:List bE)(x:bE)(A:Int):Bool:=x.stay&&(!decide (x.ac+1=A)|| !decide (x.bc=0)||(nx p x.a).isSome||decide (x.b∈mO p)||qK p x.b x.a (p.length+1))
def cD(runs:List fP)(l:List bE)(k:Nat):Int:=match l[k]? with
 |none=>0
 |some x=>if EH x runs.length=true then 9 else if Ch x (br runs x.a).length (br runs x.b).length=true then 9 else if wu (br runs x.a) x.ac≠wu (br runs x.b) x.bc then 13 else if Ci (l.take k) x (br runs x.a).length=true then 19 else if cW x∈(l.map cW).take k then 6 else 0
def ma(runs:List fP)(l:List bE):Int×Int:=if l.length>1024 then(0,5)else bL (cD runs l) l.length
theorem EI(runs:List fP)(l:List bE)(k:Nat)(hk:k≤l.length)(h:∀j,j<k→cD runs l j=0):yK (nx (l.take k))∧∀x∈l.take k,0≤x.a:=by
 induction k with
 |zero=>rw[ajU];exact⟨Pk,fun x hx=>by cases hx⟩
 |succ k ih=>
  have pX:k<l.length:=by omega
  obtain⟨h1,h2⟩:=ih (by omega) fun j hj=>h j (by omega);have hz:=h k (by omega);unfold cD at hz;rw[cO pX]at hz;simp only at hz;have hr:EH l[k] runs.length=false:=by
   cases hr:EH l[k] runs.length with
   |false=>rfl
   |true=>rw[hr,AI rfl]at hz;cases hz
  have hs:Ci (l.take k) l[k] (br runs l[k].a).length=false:=by
   cases hs:Ci (l.take k) l[k] (br runs l[k].a).length with
   |false=>rfl
   |true=>
    rw[hs]at hz;split at hz
    ·cases hz
    ·split at hz
     ·cases hz
     ·split at hz
      ·cases hz
      ·rw[AI rfl]at hz;cases hz
  unfold EH at hr;simp only[ajp,ajS,No,IL,aiQ]at hr;rw[ai8 pX];refine⟨K3 h1 l[k] ?_,fun x hx=>?_⟩
  ·unfold Ci at hs;cases vw:l[k].stay with
   |false=>exact Or.inl rfl
   |true=>
    rw[vw,aj9]at hs;simp only[ajp]at hs;refine Or.inr ⟨hr.2,?_,hs.2⟩;have:=hs.1.1.2;cases hn:nx (l.take k) l[k].a with
    |none=>rfl
    |some w=>rw[hn]at this;cases this
  ·rcases aiW.1 hx with hx|hx
   ·exact h2 x hx
   ·rw[akO]at hx;subst hx;exact hr.1.1.1
theorem Af(runs:List fP)(a:Int)(h:0≤a∧a<(runs.length:Int)):∃r∈runs,az (runs.map fP.pv) a=some r.pv∧br runs a=r.calls:=by
 obtain⟨n,rfl⟩:=ak5 h.1;have hn:n<runs.length:=by omega
 refine⟨runs[n],aiZ hn,?_,?_⟩
 ·rw[aU,GP,cO hn];rfl
 ·unfold br;rw[aiP,cO hn];rfl
theorem w9(cs:List gq)(c:Int)(h:0≤c∧c<(cs.length:Int)):∃r,az (cs.map gq.pv) c=some r∧cell r 0=.int .i64 (wu cs c):=by
 obtain⟨n,rfl⟩:=ak5 h.1;have hn:n<cs.length:=by omega
 refine⟨cs[n].pv,?_,?_⟩
 ·rw[aU,GP,cO hn];rfl
 ·unfold wu;rw[aiP,cO hn];rfl
theorem wv{runs:List fP}(h:∀y∈runs,y.Ok)(a:Int):(br runs a).length≤maxLen:=by
 unfold br;cases hr:runs[a.toNat]? with
 |none=>simp
 |some r=>exact(h r (abV hr)).calls.1
theorem K6(N:aR)(runs:List fP)(hr:∀y∈runs,y.Ok)(l:List bE)(hl:l.length≤maxLen)(k:Nat)(hk:k<l.length)(Fo:∀j,j<k→cD runs l j=0)(rec:TY0→Option PV):fJ (l.map bE.pv,(l.length:Int),(k:Int),N.stops.map Stop.pv,N.aD.map aV.pv,runs.map fP.pv,l.map bE.pv,N.paths.map Path.pv,N.ba.map bJ.pv,N.bY,N.within,N.cap,0,0,0,nX (l.take k),seen rJ (mO (l.take k)),seen K4 ((l.map cW).take k),()) rec=fK (if cD runs l k=0 then none else some (some (r3 3 k (cD runs l k)))) (rec (l.map bE.pv,(l.length:Int),((k+1:Nat):Int),N.stops.map Stop.pv,N.aD.map aV.pv,runs.map fP.pv,l.map bE.pv,N.paths.map Path.pv,N.ba.map bJ.pv,N.bY,N.within,N.cap,0,0,0,nX (l.take (k+1)),seen rJ (mO (l.take (k+1))),seen K4 ((l.map cW).take (k+1)),())):=by
 have hm:=bI;have h1:decide ((k:Int)<(l.length:Int))=true:=by simp;omega
 obtain⟨ads,_⟩:=EI runs l k (by omega) Fo;have hlen:(l.take k).length=k:=by simp;omega
 have Bc:=Pq (l.take k) ads (by omega) l[k].b l[k].a;have rY:dE (.agg [.int .i64 l[k].a,.int .i64 l[k].ac,.int .i64 l[k].b,.int .i64 l[k].bc]) (.bool true) (seen K4 ((l.map cW).take k))=_:=nV VO (cW l[k]) ((l.map cW).take k);have s9:cH (.agg [.int .i64 l[k].a,.int .i64 l[k].ac,.int .i64 l[k].b,.int .i64 l[k].bc]) (.bool false) (seen K4 ((l.map cW).take k))=_:=lB VO (cW l[k]) ((l.map cW).take k);have adt:dE (.int .i64 l[k].b) (.bool true) (seen rJ (mO (l.take k)))=_:=nV (key:=rJ) Ae l[k].b (mO (l.take k));have aaN:cH (.int .i64 l[k].b) (.bool false) (seen rJ (mO (l.take k)))=_:=lB (key:=rJ) Ae l[k].b (mO (l.take k));have hsn:l.take (k+1)=l.take k++[l[k]]:=ai8 hk;unfold fJ;dsimp only;rw[AI h1,aU,GP,cO hk,hsn,Pn,Po,qD cW l k hk];simp only[aff,U,KS,VG,link2,VH,Rb,asInt,asBool,IS,ahj,yJ,cu,gE];unfold cD;rw[cO hk];simp only;have hR:(!(decide (l[k].a≥0)&&decide (l[k].a<(runs.length:Int)))|| !(decide (l[k].b≥0)&&decide (l[k].b<(runs.length:Int)))||decide (l[k].a=l[k].b))=EH l[k] runs.length:=rfl;rw[hR];cases hb:EH l[k] runs.length with
 |true=>simp only[IS,ED,U,Re,tb,xV,Cv];rfl
 |false=>
  unfold EH at hb;simp only[ajp,ajS,No,IL,aiQ]at hb;obtain⟨ra,hra,hia,hca⟩:=Af runs l[k].a ⟨hb.1.1.1,hb.1.1.2⟩;obtain⟨rb,Fm,hib,hcb⟩:=Af runs l[k].b ⟨hb.1.2.1,hb.1.2.2⟩;have hA:=wv hr l[k].a;rw[hia,hib];simp only[U,Vk,ay,IS,ahj,←hca,←hcb,yJ,asBool,cu];have hC:(!(decide (l[k].ac≥0)&&decide (l[k].ac<((br runs l[k].a).length:Int)))|| !(decide (l[k].bc≥0)&&decide (l[k].bc<((br runs l[k].b).length:Int))))=Ch l[k] (br runs l[k].a).length (br runs l[k].b).length:=rfl;rw[hC];cases Eh:Ch l[k] (br runs l[k].a).length (br runs l[k].b).length with
  |true=>simp only[IS,ED,U,Re,tb,xV,Cv];rfl
  |false=>
   unfold Ch at Eh;simp only[ajp,ajS,No,IL]at Eh;obtain⟨ka,hka,hsa⟩:=w9 (br runs l[k].a) l[k].ac Eh.1;obtain⟨kb,hkb,hsb⟩:=w9 (br runs l[k].b) l[k].bc Eh.2;have hw:IntKind.i64.wrap (l[k].ac+1)=l[k].ac+1:=dU (by omega) (by omega);simp only[cT,T1,hka,hkb,U,hsa,hsb,yN,Bb,s9,aaN,rY,adt,asInt,asBool,IS,Bc,hw,hlen,cu,ig,nR,ED,Re,tb,xV,Cv,aO (show k<9223372036854775807 by omega)];have hS:(l[k].stay&&(!decide (l[k].ac+1=((br runs l[k].a).length:Int))|| !decide (l[k].bc=0)||(nx (l.take k) l[k].a).isSome||decide (l[k].b∈mO (l.take k))||qK (l.take k) l[k].b l[k].a (k+1)))=Ci (l.take k) l[k] (br runs l[k].a).length:=by unfold Ci;rw[hlen]
   rw[hS];generalize Ci (l.take k) l[k] (br runs l[k].a).length=S;by_cases vw:wu (br runs l[k].a) l[k].ac=wu (br runs l[k].b) l[k].bc
   ·simp only[vw,ai2,aiK,cT,T1,alC,not_true];cases S with
    |true=>rfl
    |false=>
     by_cases bQ:cW l[k]∈(l.map cW).take k
     ·simp only[bQ,ai2,IS,cT,T1];rfl
     ·simp only[bQ,aiS,IS,cT,T1];cases l[k].stay<;>rfl
   ·simp only[vw,aiS,ai4,IS,alC,akr];rfl
theorem Ft(N:aR)(hr:N.runs.length≤maxLen∧∀y∈N.runs,y.Ok)(hl:N.bh.length≤maxLen):dA [N.pv]=some (prt 3 (ma N.runs N.bh)):=by
 have hm:=bI;simp only[dA,kR,zI,zJ,zK,zL,zM,zN,zO,zP,zQ,zR,U,ahj];generalize Mm:N.bh=l at hl⊢;generalize yY:N.runs=runs at hr⊢;unfold ma;by_cases vf:l.length>1024
 ·rw[AI (by simp;omega),AI vf];rfl
 ·rw[By (by simp;omega),By vf];have hR:some (prt 3 (bL (cD runs l) l.length))=if(bL (cD runs l) l.length).2=0 then some (r3 0 0 0)else some (r3 3 (bL (cD runs l) l.length).1 (bL (cD runs l) l.length).2):=by
   unfold prt;by_cases h:(bL (cD runs l) l.length).2=0
   ·rw[AI h,AI h]
   ·rw[By h,By h]
  rw[hR,←iE (cD runs l) l.length (fun i e=>r3 3 i e)];refine xW (fun k=>(l.map bE.pv,(l.length:Int),(k:Int),N.stops.map Stop.pv,N.aD.map aV.pv,runs.map fP.pv,l.map bE.pv,N.paths.map Path.pv,N.ba.map bJ.pv,N.bY,N.within,N.cap,0,0,0,nX (l.take k),seen rJ (mO (l.take k)),seen K4 ((l.map cW).take k),())) l.length _ (fun k hk Fo rec=>K6 N runs hr.2 l hl k hk (fun j hj=>?_) rec) (fun _ rec=>?_) (by have:=bp;omega) rfl
  ·have:=Fo j hj;by_cases h0:cD runs l j=0
   ·exact h0
   ·rw[By h0]at this;cases this
  ·unfold fJ;dsimp only;rw[By (by simp)];rfl
theorem SY(N:aR)(i:Nat)(hi:i<N.bh.length)(hl:N.bh.length≤maxLen)(hp:∀x∈N.bh.take i,0≤x.a)(a b:Int)(hb:0≤b):ky [N.pv,.int .i64 i,.int .i64 a,.int .i64 b]=some (.bool (qK (N.bh.take i) a b (i+1))):=by
 have hm:=bI;simp only[ky,wb,zI,zJ,zK,zL,zM,zN,zO,zP,zQ,zR,U];simp only[asInt,IS,U];generalize Mm:N.bh=l at hl hi hp⊢;have ag7:nx (l.take i) (-1)=none:=by
  cases hn:nx (l.take i) (-1)with
  |none=>rfl
  |some w=>obtain⟨x,hx,_,hxa,_⟩:=VM hn;have:=hp x hx;omega
 have JJ:∀t,(nx (l.take i) ((it (nx (l.take i)) t a).getD (-1))).getD (-1)=(it (nx (l.take i)) (t+1) a).getD (-1):=by
  intro t;rw[Rh];cases it (nx (l.take i)) t a with
  |none=>simp only[Option.getD_none,Option.bind_none,ag7]
  |some v=>rfl
 have uW:∀(c:Int)(t:Nat)er,bl.run (mi er) ((i:Int),c,b,(t:Int),-1,0,N.stops.map Stop.pv,N.aD.map aV.pv,N.runs.map fP.pv,l.map bE.pv,N.paths.map Path.pv,N.ba.map bJ.pv,N.bY,N.within,N.cap,())=if(nx (l.take i) c).getD (-1)=b then some (.bool true)else er ((i:Int),(nx (l.take i) c).getD (-1),b,IntKind.i64.wrap ((t:Int)+1),N.stops.map Stop.pv,N.aD.map aV.pv,N.runs.map fP.pv,l.map bE.pv,N.paths.map Path.pv,N.ba.map bJ.pv,N.bY,N.within,N.cap,()):=by
  intro c t er;refine bV (fun k=>((i:Int),c,b,(t:Int),(nx (l.take k) c).getD (-1),(k:Int),N.stops.map Stop.pv,N.aD.map aV.pv,N.runs.map fP.pv,l.map bE.pv,N.paths.map Path.pv,N.ba.map bJ.pv,N.bY,N.within,N.cap,())) i (fun k hk rec=>?_) (fun rec=>?_) (by have:=bp;omega) (by rw[ajU,aaL];rfl)
  ·have h1:decide ((k:Int)<(i:Int))=true:=by simp;omega
   have pX:k<l.length:=by omega
   unfold mi;dsimp only;rw[AI h1,aU,GP,cO pX,ai8 pX,tW];simp only[aff,U,KS,link2,Rb,asInt,asBool,IS,ig,gE,aO (show k<9223372036854775807 by omega)];by_cases hc:(l[k].stay&&decide (l[k].a=c))=true
   ·rw[AI hc,AI hc];rfl
   ·rw[By hc,By hc]
  ·unfold mi;dsimp only;rw[By (by simp)];simp only[gE,IL]
 unfold qK;have ob:bl.run (mj bl) ((i:Int),a,b,0,N.stops.map Stop.pv,N.aD.map aV.pv,N.runs.map fP.pv,l.map bE.pv,N.paths.map Path.pv,N.ba.map bJ.pv,N.bY,N.within,N.cap,())=if((List.range (i+1)).any fun t=>decide (it (nx (l.take i)) (t+1) a=some b))=true then some (PV.bool true)else some (PV.bool false):=by
  refine ta (fun t:Nat=>((i:Int),(it (nx (l.take i)) t a).getD (-1),b,(t:Int),N.stops.map Stop.pv,N.aD.map aV.pv,N.runs.map fP.pv,l.map bE.pv,N.paths.map Path.pv,N.ba.map bJ.pv,N.bY,N.within,N.cap,())) (i+1) (fun t=>decide (it (nx (l.take i)) (t+1) a=some b)) (no:=some (PV.bool true)) (fin:=some (PV.bool false)) (fun t ht rec=>?_) (fun rec=>?_) (by have:=bp;omega) rfl
  ·have h1:decide ((t:Int)≤(i:Int))=true:=by simp;omega
   unfold mj;dsimp only;rw[AI h1,uW,JJ,aO (by omega)];cases hv:it (nx (l.take i)) (t+1) a with
   |none=>rw[By (by simp only[Option.getD_none];omega),By (by simp)]
   |some v=>
    by_cases Yb:v=b
    ·rw[AI (by simpa using Yb),AI (by simpa using Yb)]
    ·rw[By (by simpa using Yb),By (by simpa using Yb)]
  ·unfold mj;dsimp only;rw[By (by simp;omega)]
 rw[ob];cases(List.range (i+1)).any fun t=>decide (it (nx (l.take i)) (t+1) a=some b)<;>rfl
theorem SZ(l:List bE)(P:bE→Bool)(k:Nat)(hk:k≤l.length):((List.range k).any fun j=>(l[j]?).elim false P)=(l.take k).any P:=by
 induction k with
 |zero=>rfl
 |succ k ih=>
  have pX:k<l.length:=by omega
  rw[ald,alg,ih (by omega),ai8 pX,alg];simp only[aka,alA,cO pX,Option.elim]
theorem VR(N:aR)(hr:N.runs.length≤maxLen∧∀y∈N.runs,y.Ok)(hl:N.bh.length≤maxLen)(k:Nat)(hk:k<N.bh.length)(Fo:∀j,j<k→cD N.runs N.bh j=0):ml [N.pv,.int .i64 k]=some (.int .i64 (cD N.runs N.bh k)):=by
 have hm:=bI;obtain⟨_,eB⟩:=EI N.runs N.bh k (by omega) Fo;have Bc:=fun a b hb=>SY N k hk hl eB a b hb;have hE:=Hu N;simp only[ml,yI,zI,zJ,zK,zL,zM,zN,zO,zP,zQ,zR,U];rw[←Hu N]at Bc;generalize Mm:N.bh=l at hl hk eB Bc⊢;generalize yY:N.runs=runs at hr Bc⊢;have hw0:IntKind.i64.wrap ((runs.length:Int)-1)=(runs.length:Int)-1:=dU (by omega) (by omega);simp only[asInt,IS,U,aU,GP,cO hk,aff,KS,VG,link2,VH,Rb,asBool,ahj,hw0,EB,cu,gE];unfold cD;rw[cO hk];simp only;have hR:(!(decide (l[k].a≥0)&&decide (l[k].a≤(runs.length:Int)-1))|| !(decide (l[k].b≥0)&&decide (l[k].b≤(runs.length:Int)-1))||decide (l[k].a=l[k].b))=EH l[k] runs.length:=by unfold EH;rw[aiN];simp only[aiI,aiT,ajn,IL,aiQ];omega
 rw[hR];cases hb:EH l[k] runs.length with
 |true=>simp only[IS]
 |false=>
  unfold EH at hb;simp only[ajp,ajS,No,IL,aiQ]at hb;obtain⟨ra,hra,hia,hca⟩:=Af runs l[k].a ⟨hb.1.1.1,hb.1.1.2⟩;obtain⟨rb,Fm,hib,hcb⟩:=Af runs l[k].b ⟨hb.1.2.1,hb.1.2.2⟩;have hA:=wv hr.2 l[k].a;have hB:=wv hr.2 l[k].b;rw[hia,hib];simp only[U,Vk,ay,IS,ahj,←hca,←hcb];have hwA:IntKind.i64.wrap (((br runs l[k].a).length:Int)-1)=((br runs l[k].a).length:Int)-1:=dU (by omega) (by omega);have hwB:IntKind.i64.wrap (((br runs l[k].b).length:Int)-1)=((br runs l[k].b).length:Int)-1:=dU (by omega) (by omega);simp only[hwA,hwB,EB,asBool,U,cu];have hC:(!(decide (l[k].ac≥0)&&decide (l[k].ac≤((br runs l[k].a).length:Int)-1))|| !(decide (l[k].bc≥0)&&decide (l[k].bc≤((br runs l[k].b).length:Int)-1)))=Ch l[k] (br runs l[k].a).length (br runs l[k].b).length:=by unfold Ch;rw[aiN];simp only[aiI,aiT,ajn,IL,aiQ];omega
  rw[hC];cases Eh:Ch l[k] (br runs l[k].a).length (br runs l[k].b).length with
  |true=>simp only[IS,cT,T1]
  |false=>
   unfold Ch at Eh;simp only[ajp,ajS,No,IL]at Eh;obtain⟨ka,hka,hsa⟩:=w9 (br runs l[k].a) l[k].ac Eh.1;obtain⟨kb,hkb,hsb⟩:=w9 (br runs l[k].b) l[k].bc Eh.2;simp only[cT,T1,hka,hkb,U,hsa,hsb,asInt,asBool,IS,cu,ig,nR];by_cases vw:wu (br runs l[k].a) l[k].ac=wu (br runs l[k].b) l[k].bc
   ·simp only[vw,ai2,aiK,cT,T1,alC,not_true];have adu:bl.run nF ((k:Int),0,N.stops.map Stop.pv,N.aD.map aV.pv,runs.map fP.pv,l.map bE.pv,N.paths.map Path.pv,N.ba.map bJ.pv,N.bY,N.within,N.cap,.int .i64 l[k].a,.int .i64 l[k].ac,.int .i64 l[k].b,.int .i64 l[k].bc,.bool l[k].stay,())=if cW l[k]∈(l.map cW).take k then some (.int .i64 6)else some (.int .i64 0):=by
     refine(ta (fun j=>((k:Int),(j:Int),N.stops.map Stop.pv,N.aD.map aV.pv,runs.map fP.pv,l.map bE.pv,N.paths.map Path.pv,N.ba.map bJ.pv,N.bY,N.within,N.cap,PV.int .i64 l[k].a,PV.int .i64 l[k].ac,PV.int .i64 l[k].b,PV.int .i64 l[k].bc,PV.bool l[k].stay,())) k (fun j=>decide ((l.map cW)[j]?=some (cW l[k]))) (no:=some (.int .i64 6)) (fin:=some (.int .i64 0)) (fun j hj rec=>?_) (fun rec=>?_) (by have:=bp;omega) rfl).trans ?_
     ·have h1:decide ((j:Int)<(k:Int))=true:=by simp;omega
      have Jo:j<l.length:=by omega
      have hd:decide ((l.map cW)[j]?=some (cW l[k]))=(decide (l[j].a=l[k].a)&&decide (l[j].ac=l[k].ac)&&decide (l[j].b=l[k].b)&&decide (l[j].bc=l[k].bc)):=by rw[aiN];simp[cO Jo,cW,alu]
      rw[hd];unfold nF;dsimp only;rw[AI h1,aU,GP,cO Jo];simp only[aff,U,KS,VG,link2,VH,asInt,IS,aO (show j<9223372036854775807 by omega),gE,ig]
     ·unfold nF;dsimp only;rw[By (by simp)]
     ·rw[CS _ _ (by simp;omega)];simp only[IL]
    have ag8:bl.run (nG bl) ((k:Int),0,N.stops.map Stop.pv,N.aD.map aV.pv,runs.map fP.pv,l.map bE.pv,N.paths.map Path.pv,N.ba.map bJ.pv,N.bY,N.within,N.cap,.int .i64 l[k].a,.int .i64 l[k].ac,.int .i64 l[k].b,.int .i64 l[k].bc,.bool l[k].stay,())=if(l[k].stay&&((nx (l.take k) l[k].a).isSome||decide (l[k].b∈mO (l.take k))))=true then some (.int .i64 19)else if(l[k].stay&&qK (l.take k) l[k].b l[k].a (k+1))=true then some (.int .i64 19)else if cW l[k]∈(l.map cW).take k then some (.int .i64 6)else some (.int .i64 0):=by
     refine(ta (fun j=>((k:Int),(j:Int),N.stops.map Stop.pv,N.aD.map aV.pv,runs.map fP.pv,l.map bE.pv,N.paths.map Path.pv,N.ba.map bJ.pv,N.bY,N.within,N.cap,PV.int .i64 l[k].a,PV.int .i64 l[k].ac,PV.int .i64 l[k].b,PV.int .i64 l[k].bc,PV.bool l[k].stay,())) k (fun j=>(l[j]?).elim false fun y=>l[k].stay&&y.stay&&(decide (y.a=l[k].a)||decide (y.b=l[k].b))) (no:=some (.int .i64 19)) (fin:=if(l[k].stay&&qK (l.take k) l[k].b l[k].a (k+1))=true then some (.int .i64 19)else if cW l[k]∈(l.map cW).take k then some (.int .i64 6)else some (.int .i64 0)) (fun j hj rec=>?_) (fun rec=>?_) (by have:=bp;omega) rfl).trans ?_
     ·have h1:decide ((j:Int)<(k:Int))=true:=by simp;omega
      have Jo:j<l.length:=by omega
      rw[cO Jo];unfold nG;dsimp only;rw[AI h1,aU,GP,cO Jo];simp only[aff,U,KS,link2,Rb,asInt,asBool,IS,aO (show j<9223372036854775807 by omega),gE,ig,cu,Option.elim];rfl
     ·unfold nG;dsimp only;rw[By (by simp),adu];have:=Bc l[k].b l[k].a (by have:=hb.1.1.1;omega);simp only[asBool,asInt,IS,U,this,ig]
     ·rw[SZ l _ k (by omega)];have aat:((l.take k).any fun y=>l[k].stay&&y.stay&&(decide (y.a=l[k].a)||decide (y.b=l[k].b)))=(l[k].stay&&((nx (l.take k) l[k].a).isSome||decide (l[k].b∈mO (l.take k)))):=by
       rw[SX,VQ];cases l[k].stay with
       |false=>simp
       |true=>
        rw[aiN];simp only[aj9,aiI,aj5,No,IL];constructor
        ·rintro⟨x,h1,h2,h3|h3⟩
         ·exact Or.inl ⟨x,h1,h2,h3⟩
         ·exact Or.inr ⟨x,h1,h2,h3⟩
        ·rintro(⟨x,h1,h2,h3⟩|⟨x,h1,h2,h3⟩)
         ·exact⟨x,h1,h2,Or.inl h3⟩
         ·exact⟨x,h1,h2,Or.inr h3⟩
      rw[aat]
    rw[ag8];have hlen:(l.take k).length=k:=by simp;omega
    have hac:decide (l[k].ac=((br runs l[k].a).length:Int)-1)=decide (l[k].ac+1=((br runs l[k].a).length:Int)):=by rw[aiN];simp only[IL];omega
    rw[hac];unfold Ci;rw[hlen];generalize (!decide (l[k].ac+1=((br runs l[k].a).length:Int)))=X1;generalize (!decide (l[k].bc=0))=X2;generalize (nx (l.take k) l[k].a).isSome=X3;generalize decide (l[k].b∈mO (l.take k))=X4;generalize qK (l.take k) l[k].b l[k].a (k+1)=X5;by_cases bQ:cW l[k]∈(l.map cW).take k
    ·simp only[bQ,IS];cases l[k].stay<;>cases X1<;>cases X2<;>cases X3<;>cases X4<;>cases X5<;>rfl
    ·simp only[bQ,T1];cases l[k].stay<;>cases X1<;>cases X2<;>cases X3<;>cases X4<;>cases X5<;>rfl
   ·simp only[vw,aiS,ai4,IS,alC,akr,cT,T1]
def jV(N:aR):Int×Int×Int:=
 if(fX N.stops).2=0 then
  if(fZ N.aD).2=0 then
   if(pg N.runs N.stops.length N.aD.length).2=0 then
    if(ma N.runs N.bh).2=0 then
     if(cM N.paths N.stops.length).2=0 then if(dJ N.ba N.bY N.within N.cap).2=0 then(0,0,0)else(5,dJ N.ba N.bY N.within N.cap)
     else(4,cM N.paths N.stops.length)
    else(3,ma N.runs N.bh)
   else(2,pg N.runs N.stops.length N.aD.length)
  else(1,fZ N.aD)
 else(0,fX N.stops)
def gp(x:Int×Int×Int):PV:=.aP [.int .i64 x.1,.int .i64 x.2.1,.int .i64 x.2.2]
theorem r3E(p i e:Int):PV.agg [cell (r3 p i e) 0,cell (r3 p i e) 1,cell (r3 p i e) 2]=r3 p i e:=rfl
theorem Zz(p i e:Int):PV.agg [.int .i64 p,.int .i64 i,.int .i64 e]=r3 p i e:=rfl
theorem wx(p i e q j f:Int):dt [.rs 3 [r3 p i e,r3 q j f]]=some (if e=0 then(if f=0 then r3 0 0 0 else r3 q j f)else r3 p i e):=by
 simp only[dt,sf,ay,IS,U];have h0:=bK (body:=gH) (fun k=>([r3 p i e,r3 q j f],(2:Int),(k:Int),0,0,0,())) 2 (fun k=>if k=0 then(if e=0 then none else some (some (r3 p i e)))else(if f=0 then none else some (some (r3 q j f)))) (fin:=some (r3 0 0 0)) (fun k hk rec=>?_) (fun rec=>?_) (by decide) (s0:=([r3 p i e,r3 q j f],(2:Int),0,0,0,0,())) rfl
 ·refine h0.trans ?_;have:List.range 2=[0,1]:=rfl;rw[this];by_cases he:e=0
  ·by_cases hf:f=0<;>simp[he,hf,fK]
  ·simp[he,fK]
 ·have h2:k=0∨k=1:=by omega
  rcases h2 with rfl|rfl
  ·unfold gH;dsimp only;rw[AI (by simp),aU];simp only[aje,U,Cv,asInt,IS,nR,r3E,aO (show 0<9223372036854775807 by omega)];by_cases he:e=0
   ·simp only[he,ai2,aiK,cT,T1,IS];rfl
   ·simp only[he,aiS,ai4,T1,IS];rfl
  ·unfold gH;dsimp only;rw[AI (by simp),aU];simp only[aj2,aje,U,Cv,asInt,IS,nR,r3E,aO (show 1<9223372036854775807 by omega)];by_cases he:f=0
   ·simp only[he,ai2,aiK,cT,T1,IS];rfl
   ·simp only[he,aiS,ai4,T1,IS];rfl
 ·unfold gH;dsimp only;rw[By (by simp)];rfl
theorem Pr(p:Int)(x:Int×Int):prt p x=if x.2=0 then r3 0 0 0 else r3 p x.1 x.2:=rfl
theorem GB{l:List Stop}(h:(fX l).2=0):l.length≤64:=by
 unfold fX at h;by_cases vf:l.length>64
 ·rw[AI vf]at h;cases h
 ·omega
theorem EJ(a b:Int):(a==b)=decide (a=b):=gE a b
theorem En(N:aR)(h:N.Ok)(hp:N.paths.length≤4096):dP [N.pv]=some (gp (jV N)):=by
 have hs:=SM N.stops h.stops;have hr:=Pb N.aD h.aD;have hu:=Iw N h.runs;have hl:=Ft N h.runs h.bh.1;have hf:=Pd N.ba N.bY N.within N.cap h.ba;unfold w8 at hf;simp only[dP,sd,zI,zJ,zK,zL,zM,zN,zO,zP,zQ,zR,U,Hu];simp only[hs,hr,hf,hu,hl,U,res,bg,aiV,aji,Nat.reduceAdd,IS,ai6,ai5,ED,Re,Zz,wx];unfold jV;by_cases h1:(fX N.stops).2=0
 ·have hpa:=Fs N (GB h1) hp;simp only[hpa,U,h1,IS];by_cases h2:(fZ N.aD).2=0
  ·simp only[h2,IS];rw[Pr 2,Pr 3,Pr 4];by_cases h3:(pg N.runs N.stops.length N.aD.length).2=0
   ·simp only[h3,IS];by_cases h4:(ma N.runs N.bh).2=0
    ·simp only[h4,IS];by_cases h5:(cM N.paths N.stops.length).2=0
     ·simp only[h5,IS];by_cases h6:(dJ N.ba N.bY N.within N.cap).2=0
      ·simp only[h6,IS,Re,Zz,tb,xV,Cv,asInt,U,wx,EJ,ai2,aiS,cT,gp]
      ·simp only[h6,IS,T1,Re,Zz,tb,xV,Cv,asInt,U,wx,EJ,ai2,aiS,cT,gp]
     ·simp only[h5,IS,T1,Re,Zz,tb,xV,Cv,asInt,U,wx,EJ,ai2,aiS,cT,gp]
    ·simp only[h4,IS,T1,Re,Zz,tb,xV,Cv,asInt,U,wx,EJ,ai2,aiS,cT,gp]
   ·simp only[h3,IS,T1,Re,Zz,tb,xV,Cv,asInt,U,wx,EJ,ai2,aiS,cT,gp]
  ·simp only[h2,IS,T1,Re,Zz,tb,xV,Cv,asInt,U,wx,EJ,ai2,aiS,cT,gp]
 ·simp only[h1,IS,T1,Re,Zz,tb,xV,Cv,asInt,U,wx,EJ,ai2,aiS,cT,gp]
theorem Iz(N:aR)(h:N.Ok)(hn:N.stops.length≤64)(hp:N.paths.length≤4096):bl.run mn (0,N.stops.map Stop.pv,N.aD.map aV.pv,N.runs.map fP.pv,N.bh.map bE.pv,N.paths.map Path.pv,N.ba.map bJ.pv,N.bY,N.within,N.cap,())=some (gp (if(bL (cD N.runs N.bh) N.bh.length).2=0 then
  if(cM N.paths N.stops.length).2=0 then if(dJ N.ba N.bY N.within N.cap).2=0 then(0,0,0)else(5,dJ N.ba N.bY N.within N.cap)
  else(4,cM N.paths N.stops.length)
 else(3,bL (cD N.runs N.bh) N.bh.length))):=by
 have hm:=bI
 have Uv:=h.bh.1
 have hpa:=SU N hn hp
 have hf:=SO N.ba N.bY N.within N.cap h.ba
 unfold w8 at hf
 have hg:=iE (cD N.runs N.bh) N.bh.length (fun i e=>gp (3,i,e)) (some (gp (if(cM N.paths N.stops.length).2=0 then if(dJ N.ba N.bY N.within N.cap).2=0 then(0,0,0)else(5,dJ N.ba N.bY N.within N.cap)else(4,cM N.paths N.stops.length))))
 have hR:(if(bL (cD N.runs N.bh) N.bh.length).2=0 then(some (gp (if(cM N.paths N.stops.length).2=0 then if(dJ N.ba N.bY N.within N.cap).2=0 then(0,0,0)else(5,dJ N.ba N.bY N.within N.cap)else(4,cM N.paths N.stops.length))))else some (gp (3,(bL (cD N.runs N.bh) N.bh.length).1,(bL (cD N.runs N.bh) N.bh.length).2)))=some (gp (if(bL (cD N.runs N.bh) N.bh.length).2=0 then
   if(cM N.paths N.stops.length).2=0 then if(dJ N.ba N.bY N.within N.cap).2=0 then(0,0,0)else(5,dJ N.ba N.bY N.within N.cap)
   else(4,cM N.paths N.stops.length)
  else(3,bL (cD N.runs N.bh) N.bh.length))):=by
  by_cases hz:(bL (cD N.runs N.bh) N.bh.length).2=0
  ·rw[AI hz,AI hz]
  ·rw[By hz,By hz]
 rw[←hR,←hg]
 refine xW (fun k=>((k:Int),N.stops.map Stop.pv,N.aD.map aV.pv,N.runs.map fP.pv,N.bh.map bE.pv,N.paths.map Path.pv,N.ba.map bJ.pv,N.bY,N.within,N.cap,())) N.bh.length _ (fun k hk Fo rec=>?_) (fun _ rec=>?_) (by have:=bp;omega) rfl
 ·have adv:∀j,j<k→cD N.runs N.bh j=0:=fun j hj=>by
   have:=Fo j hj;by_cases h0:cD N.runs N.bh j=0
   ·exact h0
   ·rw[By h0]at this;cases this
  have hrl:=VR N h.runs Uv k hk adv;have h1:decide ((k:Int)<((N.bh.map bE.pv).length:Int))=true:=by simp;omega
  unfold mn;dsimp only;rw[AI h1,Hu,hrl];simp only[U,asInt,IS,nR,aO (show k<9223372036854775807 by omega)];by_cases he:cD N.runs N.bh k=0
  ·simp only[he,ai2,aiK,cT,T1,IS];rfl
  ·simp only[he,aiS,ai4,T1,IS];rfl
 ·unfold mn;dsimp only;rw[By (by simp),Hu,hpa];simp only[U,res,bg,aiV,aji,Nat.reduceAdd,IS,ai6,ai5,asInt,nR,hf];by_cases h5:(cM N.paths N.stops.length).2=0
  ·simp only[h5,ai2,aiK,cT,T1,IS];by_cases h6:(dJ N.ba N.bY N.within N.cap).2=0
   ·simp only[h6,ai2,aiK,cT,T1,IS,gp]
   ·simp only[h6,aiS,ai4,cT,T1,IS,gp]
  ·simp only[h5,aiS,ai4,cT,T1,IS,gp]
theorem SK(N:aR)(h:N.Ok)(hp:N.paths.length≤4096):kz [N.pv]=some (gp (jV N)):=by
 have hm:=bI;have cL:4096≤maxLen:=by decide
 have hs:=SN N.stops h.stops;have hr:=Pc N.aD h.aD;simp only[kz,wo,zI,zJ,zK,zL,zM,zN,zO,zP,zQ,zR,U];simp only[hs,hr,U,res,bg,aiV,aji,Nat.reduceAdd,IS,ai6,ai5,asInt,nR];unfold jV;by_cases h1:(fX N.stops).2=0
 ·have uU:=Iz N h (GB h1) hp;simp only[h1,ai2,aiK,cT,T1,IS];by_cases h2:(fZ N.aD).2=0
  ·simp only[h2,ai2,aiK,cT,T1,IS];unfold pg;by_cases vf:N.runs.length>1024
   ·rw[AI (by simp;omega),AI vf];rfl
   ·rw[By (by simp;omega),By vf];generalize hE:jm N.runs N.stops.length N.aD.length=E;generalize hF:(if(ma N.runs N.bh).2=0 then
     if(cM N.paths N.stops.length).2=0 then if(dJ N.ba N.bY N.within N.cap).2=0 then((0:Int),(0:Int),(0:Int))else(5,dJ N.ba N.bY N.within N.cap)
     else(4,cM N.paths N.stops.length)
    else(3,ma N.runs N.bh))=F
    have hg:=iE E N.runs.length (fun i e=>gp (2,i,e)) (some (gp F));have hR:(if(bL E N.runs.length).2=0 then some (gp F)else some (gp (2,(bL E N.runs.length).1,(bL E N.runs.length).2)))=some (gp (if(bL E N.runs.length).2=0 then F else(2,bL E N.runs.length))):=by
     by_cases hz:(bL E N.runs.length).2=0
     ·rw[AI hz,AI hz]
     ·rw[By hz,By hz]
    rw[←hR,←hg];refine bK (fun k=>((k:Int),N.stops.map Stop.pv,N.aD.map aV.pv,N.runs.map fP.pv,N.bh.map bE.pv,N.paths.map Path.pv,N.ba.map bJ.pv,N.bY,N.within,N.cap,())) N.runs.length _ (fun k hk rec=>?_) (fun rec=>?_) (by have:=bp;omega) rfl
    ·have Ml:=X9 N h.runs k hk;rw[hE]at Ml;have h1:decide ((k:Int)<((N.runs.map fP.pv).length:Int))=true:=by simp;omega
     unfold qL;dsimp only;rw[AI h1,Hu,Ml];simp only[U,asInt,IS,nR,aO (show k<9223372036854775807 by omega)];by_cases he:E k=0
     ·simp only[he,ai2,aiK,cT,T1,IS];rfl
     ·simp only[he,aiS,ai4,T1,IS];rfl
    ·unfold qL;dsimp only;rw[By (by simp),←hF];unfold ma;by_cases Dq:N.bh.length>1024
     ·rw[AI (by simp;omega),AI Dq];rfl
     ·rw[By (by simp;omega),By Dq,uU]
  ·simp only[h2,aiS,ai4,cT,T1,IS,gp]
 ·simp only[h1,aiS,ai4,cT,T1,IS,gp]
theorem yD{N:aR}(h:(jV N).2.2=0):∀k,k<N.runs.length→jm N.runs N.stops.length N.aD.length k=0:=by
 unfold jV at h;by_cases h1:(fX N.stops).2=0
 ·rw[AI h1]at h;by_cases h2:(fZ N.aD).2=0
  ·rw[AI h2]at h;by_cases h3:(pg N.runs N.stops.length N.aD.length).2=0
   ·unfold pg at h3;by_cases vf:N.runs.length>1024
    ·rw[AI vf]at h3;cases h3
    ·rw[By vf]at h3;exact(kP _ _).1 h3
   ·rw[By h3]at h;exact absurd h h3
  ·rw[By h2]at h;exact absurd h h2
 ·rw[By h1]at h;exact absurd h h1
theorem KI{N:aR}(h:(jV N).2.2=0):∀r∈N.runs,(jG r.calls N.stops.length 0 3155932800).2=0:=by
 intro r hr;obtain⟨k,hk,rfl⟩:=ajM hr;have:=yD h k hk;unfold jm at this;rw[cO hk]at this;simp only at this;by_cases hc:(jG N.runs[k].calls N.stops.length 0 3155932800).2=0
 ·exact hc
 ·rw[By hc]at this;split at this
  ·cases this
  ·split at this
   ·cases this
   ·split at this
    ·cases this
    ·split at this
     ·cases this
     ·exact absurd this hc
theorem KH{l:List gq}{n a b:Int}(h:(jG l n a b).2=0):∀k,k<l.length→tU l n a b k=0:=by
 unfold jG at h;by_cases hc:(decide ((l.length:Int)<2)||decide ((l.length:Int)>32))=true
 ·rw[AI hc]at h;cases h
 ·rw[By hc]at h;exact(kP _ _).1 h
end Go.Ab.Tt
