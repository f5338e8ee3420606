import Derived.Test.YtanikidijjaohaaGreatNkP1
import Derived.Test.YtanikidijjaohaaGreatNwP2
namespace Go.Ab.Tt
set_option maxRecDepth 100000
set_option linter.unusedVariables false
set_option linter.unusedSimpArgs false
def bP(x:Path):Int×Int×Bool:=(x.a,x.b,x.free)
def AF(x:Int×Int×Bool):PV:=.agg [.int .i64 x.1,.int .i64 x.2.1,.bool x.2.2]
theorem JG(a b:Int×Int×Bool):dF (AF a).cells (AF b).cells=decide (a=b):=by obtain⟨a1,a2,a3⟩:=a;obtain⟨b1,b2,b3⟩:=b;rw[agV];simp[AF,PV.cells,dF,peq]
def dd(l:List Path)(n:Int)(k:Nat):Int:=match l[k]? with
 |none=>0
 |some x=>if(decide (x.a<0)||decide (x.a≥n)||decide (x.b<0)||decide (x.b≥n)||decide (x.a=x.b))=true then 9 else if(decide (x.eS<1)||decide (x.eS>14400))=true then 2 else if bP x∈(l.map bP).take k then 6 else 0
theorem NV(l:List Path)(n:Int)(hl:l.length≤maxLen):gU [.rs 4 (l.map Path.pv),.int .i64 n]=some (res (bN (dd l n) l.length).1 (bN (dd l n) l.length).2):=by
 have hm:=bf;simp only[gU,qu,aQ,asInt,T1,U,T0];rw[←oc];refine bL (fun k=>(n,l.map Path.pv,(l.length:Int),(k:Int),seen AF ((l.map bP).take k),())) l.length _ (fun k hk rec=>?_) (fun rec=>?_) ?_ rfl
 ·have h1:(k:Int)<(l.length:Int):=by omega
  have rQ:eG (.agg [.int .i64 l[k].a,.int .i64 l[k].b,.bool l[k].free]) (.bool true) (seen AF ((l.map bP).take k))=_:=od JG (bP l[k]) ((l.map bP).take k);have sY:dD (.agg [.int .i64 l[k].a,.int .i64 l[k].b,.bool l[k].free]) (.bool false) (seen AF ((l.map bP).take k))=_:=lP JG (bP l[k]) ((l.map bP).take k);simp only[mB,No,h1,T1,aV,IS,AS hk,adN,U,DL,DM,F1,DN,asInt,asBool,rQ,sY,fR,ah (show k<9223372036854775807 by omega),qG bP l k hk];unfold dd;rw[AS hk];simp only;by_cases bR:bP l[k]∈(l.map bP).take k
  ·simp only[bR,T1];by_cases e1:l[k].a<0<;>by_cases e2:l[k].a≥n<;>by_cases e3:l[k].b<0<;>by_cases e4:l[k].b≥n<;>by_cases e5:l[k].a=l[k].b<;>by_cases e6:l[k].eS<1<;>by_cases e7:l[k].eS>14400<;>simp only[e1,e2,e3,e4,e5,e6,e7,ag6,agY,Bool.or_true,ajW,ain,T1,Xq,AT]<;>rfl
  ·simp only[bR,Xq,AT];by_cases e1:l[k].a<0<;>by_cases e2:l[k].a≥n<;>by_cases e3:l[k].b<0<;>by_cases e4:l[k].b≥n<;>by_cases e5:l[k].a=l[k].b<;>by_cases e6:l[k].eS<1<;>by_cases e7:l[k].eS>14400<;>simp only[e1,e2,e3,e4,e5,e6,e7,ag6,agY,Bool.or_true,ajW,ain,T1,Xq,AT]<;>rfl
 ·simp only[mB,No,ah6,Xq];rfl
 ·have:=bk;omega
def toFp(p:Path):Nw.Fp:=⟨p.a.toNat,p.b.toNat,p.eS.toNat,p.free⟩
def Sound(l:List Path)(n:Nat):Prop:=∀p∈l,0≤p.a∧p.a<n∧0≤p.b∧p.b<n∧1≤p.eS∧p.eS≤14400
variable{l:List Path}{n:Nat}
theorem JH(h:(bN (dd l n) l.length).2=0):Sound l n:=by
 intro p hp;obtain⟨k,hk,rfl⟩:=ahT hp;have h0:=(nm _ _).1 h k hk;unfold dd at h0;rw[AS hk]at h0;simp only at h0;by_cases c1:(decide (l[k].a<0)||decide (l[k].a≥n)||decide (l[k].b<0)||decide (l[k].b≥n)||decide (l[k].a=l[k].b))=true
 ·rw[BY c1]at h0;omega
 ·rw[IN c1]at h0;by_cases c2:(decide (l[k].eS<1)||decide (l[k].eS>14400))=true
  ·rw[BY c2]at h0;omega
  ·simp only[afk,No]at c1 c2;omega
theorem toFp_pv{p:Path}(h1:0≤p.a)(h2:0≤p.b)(h3:1≤p.eS):(toFp p).pv=p.pv:=by simp only[toFp,Nw.Fp.pv,Path.pv];rw[aiB h1,aiB h2,aiB (by omega)]
theorem UL(h:Sound l n):(l.map toFp).map Nw.Fp.pv=l.map Path.pv:=by rw[aiK];apply ahc;intro p hp;exact toFp_pv (h p hp).1 (h p hp).2.2.1 (h p hp).2.2.2.2.1
def Qa(e:List PV):Path:=match e with|[.int .i64 a,.int .i64 b,.int .i64 s,.bool f]=>⟨a,b,s,f⟩|_=>⟨0,0,0,false⟩
theorem D9:∀(L:List (List PV)),(∀e∈L,Nw.IsF e)→eo L=(L.map Qa).map Path.pv
 |[],_=>rfl
 |e::L,h=>by obtain⟨i,k,s,b,rfl⟩:=h e (by simp);have:=D9 L fun x hx=>h x (by simp[hx]);unfold eo at this⊢;rw[agP,agP,agP,this];rfl
def iS(l:List Path)(n:Nat):List Path:=(Nw.EL n (Nw.q9 n (l.map toFp) false) (Nw.q9 n (l.map toFp) true)).map Qa
theorem Ge(hn:n≤64)(hl:l.length≤4096)(h:Sound l n):ek [.rs 4 (l.map Path.pv),.int .i64 n]=some (.rs 4 ((iS l n).map Path.pv))∧fI [.rs 4 (l.map Path.pv),.int .i64 n]=some (.rs 4 ((iS l n).map Path.pv)):=by have:=Nw.NW (l.map toFp) n hn (by simpa using hl) (fun p hp=>by obtain⟨q,hq,rfl⟩:=agZ.1 hp;have:=h q hq;simp only[toFp];omega);rw[UL h,D9 _ (Nw.JI n _ _)]at this;exact this
theorem JJ(l:List Path)(n:Nat)(hn:n≤64):(iS l n).length≤8192:=by
 have h1:(iS l n).length=(eo (Nw.EL n (Nw.q9 n (l.map toFp) false) (Nw.q9 n (l.map toFp) true))).length:=by simp[iS,eo]
 rw[h1,Nw.AG];have h2:=Nw.zs (it:=fun i k=>Nw.BQ (Nw.q9 n (l.map toFp) false i k) (Nw.q9 n (l.map toFp) true i k) i k) (fun i k=>Nw.Hw _ _ i k) n n;have h3:2*n*n≤2*64*64:=aiJ (ah7 2 hn) hn;omega
theorem JK(x y:Path):dF [cell x.pv 0,cell x.pv 1,cell x.pv 2,cell x.pv 3] [cell y.pv 0,cell y.pv 1,cell y.pv 2,cell y.pv 3]=decide (x=y):=by rw[agV];obtain⟨a,b,c,d⟩:=x;obtain⟨a',b',c',d'⟩:=y;simp[DL,DM,F1,DN,dF,peq]
theorem zt(x:Path):lI (Kd.int IntKind.i64::[].append (Kd.int IntKind.i64::[].append (Kd.int IntKind.i64::[].append (Kd.bool::[].append [])))) [cell x.pv 0,cell x.pv 1,cell x.pv 2,cell x.pv 3]=true:=rfl
def mC(l:List Path)(n:Nat):Bool:=decide (iS l n=l)
theorem JL(hn:n≤64)(hl:l.length≤4096)(h:(bN (dd l n) l.length).2=0):fa [.rs 4 (l.map Path.pv),.int .i64 n]=some (.bool (mC l n)):=by
 have hm:4096≤maxLen:=by decide
 have hs:=NV l n (by omega);have hf:=RL _ _ h;rw[h,hf]at hs;have hc:=(Ge hn hl (JH h)).1;have sC:=JJ l n hn;have wW:¬decide ((n:Int)>64)=true:=by simp;omega
 have h0:¬(0:Int)>(n:Int):=by omega
 simp only[fa,mc,aQ,asInt,T1,U];rw[IN wW,hs];simp only[res,cO,agU,ahg,Nat.reduceAdd,T1,U,agL,agH,asInt,IN h0,hc,aQ,T0];rw[IN (by decide)];unfold mC;by_cases hlen:(iS l n).length=l.length
 ·rw[IN (by simp[oZ,hlen])];have hr:=P9 (iS l n) l hlen (some (PV.bool false)) (some (PV.bool true));have:some (PV.bool (decide (iS l n=l)))=if iS l n=l then some (PV.bool true)else some (PV.bool false):=by by_cases hc:iS l n=l<;>simp[hc]
  rw[this,←hr];refine bL (fun k=>(l.map Path.pv,(iS l n).map Path.pv,((iS l n).length:Int),(k:Int),())) (iS l n).length _ (fun k hk rec=>?_) (fun rec=>?_) ?_ rfl
  ·have h1:decide ((k:Int)<((iS l n).length:Int))=true:=by simp;omega
   have qd:k<l.length:=by omega
   unfold j1;dsimp only;rw[BY h1,aV,IS,AS hk,aV,IS,AS qd];simp only[adN,U];rw[BY ⟨zt _,zt _⟩,JK,ah (by omega)];by_cases he:(iS l n)[k]=l[k]
   ·simp[he,fS]
   ·simp[he,fS]
  ·unfold j1;dsimp only;rw[IN (by simp)]
  ·have:=bk;omega
 ·rw[BY (by simp[oZ];omega)];rw[ahf (fun hc=>hlen (by rw[hc]))]
def cR(l:List Path)(n:Nat):Int×Int:=if(bN (dd l n) l.length).2=0 then(if mC l n=true then(0,0)else(0,18))else bN (dd l n) l.length
def si(x:Int×Int×Bool):PV:=.agg [.int .i64 x.1,.int .i64 x.2.1,.int .i64 0,.bool x.2.2]
theorem abW(a b:Int×Int×Bool):dF (si a).cells (si b).cells=decide (a=b):=by obtain⟨a1,a2,a3⟩:=a;obtain⟨b1,b2,b3⟩:=b;rw[agV];simp[si,PV.cells,dF,peq]
theorem BD(N:ai)(l:List Path)(n:Nat)(hl:l.length≤4096)(hlen:(N.stops.map Stop.pv).length=n)(k:Nat)(hk:k<l.length)(rec:W9→Option PV):cE (l.map Path.pv,(l.length:Int),(k:Int),N.stops.map Stop.pv,N.av.map aG.pv,N.runs.map dH.pv,N.aL.map bh.pv,l.map Path.pv,N.aT.map aF.pv,N.bw,N.within,N.cap,0,0,0,seen si ((l.map bP).take k),()) rec=fS (if dd l n k=0 then none else some (some (r3 4 k (dd l n k)))) (rec (l.map Path.pv,(l.length:Int),((k+1:Nat):Int),N.stops.map Stop.pv,N.av.map aG.pv,N.runs.map dH.pv,N.aL.map bh.pv,l.map Path.pv,N.aT.map aF.pv,N.bw,N.within,N.cap,0,0,0,seen si ((l.map bP).take (k+1)),())):=by
 have h1:decide ((k:Int)<(l.length:Int))=true:=by simp;omega
 have rQ:eG (.agg [.int .i64 l[k].a,.int .i64 l[k].b,.int .i64 0,.bool l[k].free]) (.bool true) (seen si ((l.map bP).take k))=_:=od abW (bP l[k]) ((l.map bP).take k);have sY:dD (.agg [.int .i64 l[k].a,.int .i64 l[k].b,.int .i64 0,.bool l[k].free]) (.bool false) (seen si ((l.map bP).take k))=_:=lP abW (bP l[k]) ((l.map bP).take k);unfold cE;dsimp only;rw[BY h1,aV,IS,AS hk,hlen];simp only[adN,U,DL,DM,F1,DN,asInt,asBool,T1,yA,aZ,fR,rQ,sY,D8,P8,s8,zK,D7,qG bP l k hk,ah (show k<9223372036854775807 by omega)];have hA:(!(decide (l[k].a≥0)&&decide (l[k].a<(n:Int)))|| !(decide (l[k].b≥0)&&decide (l[k].b<(n:Int)))||decide (l[k].a=l[k].b))=(decide (l[k].a<0)||decide (l[k].a≥(n:Int))||decide (l[k].b<0)||decide (l[k].b≥(n:Int))||decide (l[k].a=l[k].b)):=by rw[agV];simp only[afk,agS,ahv,No,agW];omega
 rw[hA];unfold dd;rw[AS hk];simp only;generalize (decide (l[k].a<0)||decide (l[k].a≥(n:Int))||decide (l[k].b<0)||decide (l[k].b≥(n:Int))||decide (l[k].a=l[k].b))=A;generalize (decide (l[k].eS<1)||decide (l[k].eS>14400))=B;by_cases bR:bP l[k]∈(l.map bP).take k
 ·simp only[bR,T1];cases A<;>cases B<;>rfl
 ·simp only[bR,Xq];cases A<;>cases B<;>rfl
theorem EM(N:ai)(hn:N.stops.length≤64)(hl:N.paths.length≤4096):cn [N.pv]=some (prt 4 (cR N.paths N.stops.length)):=by
 have hm:4096≤maxLen:=by decide
 simp only[cn,lA,jr,js,jt,ju,jw,jx,jy,jz,jB,jC,U,T0];generalize KV:N.paths=l at hl⊢;generalize QI:N.stops.length=n at hn⊢;have hlen:(N.stops.map Stop.pv).length=n:=by simpa using QI
 have hg:=iY (dd l n) l.length (fun i e=>r3 4 i e) (some (if mC l n=true then r3 0 0 0 else r3 4 0 18));have hR:some (prt 4 (cR l n))=if(bN (dd l n) l.length).2=0 then some (if mC l n=true then r3 0 0 0 else r3 4 0 18)else some (r3 4 (bN (dd l n) l.length).1 (bN (dd l n) l.length).2):=by
  unfold cR prt;by_cases h:(bN (dd l n) l.length).2=0
  ·rw[BY h,BY h];cases mC l n<;>rfl
  ·rw[IN h,IN h,IN h]
 rw[hR,←hg];by_cases hz:(bN (dd l n) l.length).2=0
 ·refine bL (fun k=>(l.map Path.pv,(l.length:Int),(k:Int),N.stops.map Stop.pv,N.av.map aG.pv,N.runs.map dH.pv,N.aL.map bh.pv,l.map Path.pv,N.aT.map aF.pv,N.bw,N.within,N.cap,0,0,0,seen si ((l.map bP).take k),())) l.length _ (fun k hk rec=>BD N l n hl hlen k hk rec) (fun rec=>?_) ?_ rfl
  ·unfold cE;dsimp only;rw[IN (by simp),hlen,JL hn hl hz];simp only[U,asBool,D8,P8,s8,zK,D7];cases mC l n<;>rfl
  ·have:=bk;omega
 ·have pw:=bL (body:=cE) (fun k=>(l.map Path.pv,(l.length:Int),(k:Int),N.stops.map Stop.pv,N.av.map aG.pv,N.runs.map dH.pv,N.aL.map bh.pv,l.map Path.pv,N.aT.map aF.pv,N.bw,N.within,N.cap,0,0,0,seen si ((l.map bP).take k),())) l.length _ (fin:=cE (l.map Path.pv,(l.length:Int),(l.length:Int),N.stops.map Stop.pv,N.av.map aG.pv,N.runs.map dH.pv,N.aL.map bh.pv,l.map Path.pv,N.aT.map aF.pv,N.bw,N.within,N.cap,0,0,0,seen si ((l.map bP).take l.length),()) fun _=>none) (fun k hk rec=>BD N l n hl hlen k hk rec) (fun rec=>?_) (by have:=bk;omega) (s0:=(l.map Path.pv,(l.length:Int),0,N.stops.map Stop.pv,N.av.map aG.pv,N.runs.map dH.pv,N.aL.map bh.pv,l.map Path.pv,N.aT.map aF.pv,N.bw,N.within,N.cap,0,0,0,[],())) rfl
  ·rw[pw,iY,iY,IN hz,IN hz]
  ·unfold cE;dsimp only;rw[IN (by simp),IN (by simp)]
theorem Hx(N:ai)(l:List Path)(hl:l.length≤4096)(i:Nat)(hi:i<l.length)(eU:UM→Option PV):bx.run (mD eU) ((i:Int),0,N.stops.map Stop.pv,N.av.map aG.pv,N.runs.map dH.pv,N.aL.map bh.pv,l.map Path.pv,N.aT.map aF.pv,N.bw,N.within,N.cap,.int .i64 l[i].a,.int .i64 l[i].b,.int .i64 l[i].eS,.bool l[i].free,())=if bP l[i]∈(l.map bP).take i then some (res i 6)else eU (IntKind.i64.wrap ((i:Int)+1),N.stops.map Stop.pv,N.av.map aG.pv,N.runs.map dH.pv,N.aL.map bh.pv,l.map Path.pv,N.aT.map aF.pv,N.bw,N.within,N.cap,()):=by
 have hm:4096≤maxLen:=by decide
 refine(sZ (fun k=>((i:Int),(k:Int),N.stops.map Stop.pv,N.av.map aG.pv,N.runs.map dH.pv,N.aL.map bh.pv,l.map Path.pv,N.aT.map aF.pv,N.bw,N.within,N.cap,PV.int .i64 l[i].a,PV.int .i64 l[i].b,PV.int .i64 l[i].eS,PV.bool l[i].free,())) i (fun k=>decide ((l.map bP)[k]?=some (bP l[i]))) (no:=some (res i 6)) (fin:=eU (IntKind.i64.wrap ((i:Int)+1),N.stops.map Stop.pv,N.av.map aG.pv,N.runs.map dH.pv,N.aL.map bh.pv,l.map Path.pv,N.aT.map aF.pv,N.bw,N.within,N.cap,())) (fun k hk rec=>?_) (fun rec=>?_) ?_ rfl).trans ?_
 ·have h1:decide ((k:Int)<(i:Int))=true:=by simp;omega
  have qd:k<l.length:=by omega
  have hd:decide ((l.map bP)[k]?=some (bP l[i]))=(decide (l[k].a=l[i].a)&&decide (l[k].b=l[i].b)&&decide (l[k].free=l[i].free)):=by rw[agV];simp[AS qd,bP,ajT]
  rw[hd];unfold mD;dsimp only;rw[BY h1,aV,IS,AS qd];simp only[adN,U,DL,DM,DN,asInt,asBool,T1,ah (show k<9223372036854775807 by omega),fR,aY];rfl
 ·unfold mD;dsimp only;rw[IN (by simp)]
 ·have:=bk;omega
 ·rw[Cc _ _ (by simp;omega)];simp only[No]
theorem RM(N:ai)(hn:N.stops.length≤64)(hl:N.paths.length≤4096):kX [N.pv]=some (res (cR N.paths N.stops.length).1 (cR N.paths N.stops.length).2):=by
 have hm:4096≤maxLen:=by decide
 simp only[kX,vv,jr,js,jt,ju,jw,jx,jy,jz,jB,jC,U];generalize KV:N.paths=l at hl⊢;generalize QI:N.stops.length=n at hn⊢;have hlen:(N.stops.map Stop.pv).length=n:=by simpa using QI
 have hw:IntKind.i64.wrap ((n:Int)-1)=(n:Int)-1:=br (by omega) (by omega);have UN:∀k,(hk:k<l.length)→∀rec,fJ bx ((k:Int),N.stops.map Stop.pv,N.av.map aG.pv,N.runs.map dH.pv,N.aL.map bh.pv,l.map Path.pv,N.aT.map aF.pv,N.bw,N.within,N.cap,()) rec=fS (if dd l n k=0 then none else some (some (res k (dd l n k)))) (rec (((k+1:Nat):Int),N.stops.map Stop.pv,N.av.map aG.pv,N.runs.map dH.pv,N.aL.map bh.pv,l.map Path.pv,N.aT.map aF.pv,N.bw,N.within,N.cap,())):=by
  intro k hk rec;have h1:decide ((k:Int)<((l.map Path.pv).length:Int))=true:=by simp;omega
  have ov:=Hx N l hl k hk rec;unfold fJ;dsimp only;rw[BY h1,aV,IS,AS hk,hlen,hw];simp only[adN,U,DL,DM,F1,DN,asInt,asBool,T1,D5,aZ,fR,ov,ah (show k<9223372036854775807 by omega)];have hA:(!(decide (l[k].a≥0)&&decide (l[k].a≤(n:Int)-1))|| !(decide (l[k].b≥0)&&decide (l[k].b≤(n:Int)-1))||decide (l[k].a=l[k].b))=(decide (l[k].a<0)||decide (l[k].a≥(n:Int))||decide (l[k].b<0)||decide (l[k].b≥(n:Int))||decide (l[k].a=l[k].b)):=by rw[agV];simp only[afk,agS,ahv,No,agW];omega
  have hB:(!(decide (l[k].eS≥1)&&decide (l[k].eS≤14400)))=(decide (l[k].eS<1)||decide (l[k].eS>14400)):=by rw[agV];simp only[afk,agS,ahv,No,agW];omega
  rw[hA,hB];unfold dd;rw[AS hk];simp only;generalize (decide (l[k].a<0)||decide (l[k].a≥(n:Int))||decide (l[k].b<0)||decide (l[k].b≥(n:Int))||decide (l[k].a=l[k].b))=A;generalize (decide (l[k].eS<1)||decide (l[k].eS>14400))=B;by_cases bR:bP l[k]∈(l.map bP).take k
  ·simp only[bR,T1];cases A<;>cases B<;>rfl
  ·simp only[bR,Xq];cases A<;>cases B<;>rfl
 have hg:=iY (dd l n) l.length (fun i e=>res i e) (some (if mC l n=true then res 0 0 else res 0 18));have hR:some (res (cR l n).1 (cR l n).2)=if(bN (dd l n) l.length).2=0 then some (if mC l n=true then res 0 0 else res 0 18)else some (res (bN (dd l n) l.length).1 (bN (dd l n) l.length).2):=by
  unfold cR;by_cases h:(bN (dd l n) l.length).2=0
  ·rw[BY h,BY h];cases mC l n<;>rfl
  ·rw[IN h,IN h]
 rw[hR,←hg];by_cases hz:(bN (dd l n) l.length).2=0
 ·refine bL (fun k=>((k:Int),N.stops.map Stop.pv,N.av.map aG.pv,N.runs.map dH.pv,N.aL.map bh.pv,l.map Path.pv,N.aT.map aF.pv,N.bw,N.within,N.cap,())) l.length _ UN (fun rec=>?_) ?_ rfl
  ·have hc:=(Ge hn hl (JH hz)).2;have sC:=JJ l n hn;unfold fJ;dsimp only;rw[IN (by simp),hlen,hc];simp only[U,aQ,T1,T0];unfold mC;by_cases UO:(iS l n).length=l.length
   ·rw[IN (by simp[oZ,UO])];have hr:=P9 (iS l n) l UO (some (res 0 18)) (some (res 0 0));have:some (if decide (iS l n=l)=true then res 0 0 else res 0 18)=if iS l n=l then some (res 0 0)else some (res 0 18):=by by_cases hc:iS l n=l<;>simp[hc]
    rw[this,←hr];refine bL (fun k=>((iS l n).map Path.pv,(k:Int),N.stops.map Stop.pv,N.av.map aG.pv,N.runs.map dH.pv,N.aL.map bh.pv,l.map Path.pv,N.aT.map aF.pv,N.bw,N.within,N.cap,())) (iS l n).length _ (fun k hk rec=>?_) (fun rec=>?_) ?_ rfl
    ·have h1:decide ((k:Int)<(((iS l n).map Path.pv).length:Int))=true:=by simp;omega
     have qd:k<l.length:=by omega
     unfold qM;dsimp only;rw[BY h1,aV,IS,AS hk,aV,IS,AS qd];simp only[adN,U];rw[BY ⟨zt _,zt _⟩,JK,ah (by omega)];by_cases he:(iS l n)[k]=l[k]
     ·simp[he,fS]
     ·simp[he,fS,res]
    ·unfold qM;dsimp only;rw[IN (by simp)];rfl
    ·have:=bk;omega
   ·rw[BY (by simp[oZ];omega)];rw[ahf (fun hc=>UO (by rw[hc]))];rfl
  ·have:=bk;omega
 ·have pw:=bL (body:=fJ bx) (fun k=>((k:Int),N.stops.map Stop.pv,N.av.map aG.pv,N.runs.map dH.pv,N.aL.map bh.pv,l.map Path.pv,N.aT.map aF.pv,N.bw,N.within,N.cap,())) l.length _ (fin:=fJ bx ((l.length:Int),N.stops.map Stop.pv,N.av.map aG.pv,N.runs.map dH.pv,N.aL.map bh.pv,l.map Path.pv,N.aT.map aF.pv,N.bw,N.within,N.cap,()) fun _=>none) UN (fun rec=>?_) (by have:=bk;omega) (s0:=(0,N.stops.map Stop.pv,N.av.map aG.pv,N.runs.map dH.pv,N.aL.map bh.pv,l.map Path.pv,N.aT.map aF.pv,N.bw,N.within,N.cap,())) rfl
  ·rw[pw,iY,iY,IN hz,IN hz]
  ·unfold fJ;dsimp only;rw[IN (by simp),IN (by simp)]
def fK(x:dH):Bytes×Int×Int:=(x.id,x.day,x.inst)
def JM(x:Bytes×Int×Int):PV:=.agg [.str x.1,.int .i64 x.2.1,.int .i64 x.2.2]
theorem UP(a b:Bytes×Int×Int):dF (JM a).cells (JM b).cells=decide (a=b):=by obtain⟨a1,a2,a3⟩:=a;obtain⟨b1,b2,b3⟩:=b;rw[agV];simp[JM,PV.cells,dF,peq]
def kB(l:List dH)(stops av:Int)(k:Nat):Int:=match l[k]? with
 |none=>0
 |some x=>if jY x.id=false then 12 else if(decide (x.AE< -1)||decide (x.inst<0))=true then 2 else if(decide (x.day<0)||decide (x.day>36524))=true then 11 else if(decide (x.ep<0)||decide (x.ep≥av))=true then 9 else if(iC x.calls stops 0 3155932800).2=0 then(if fK x∈(l.map fK).take k then 6 else 0)else(iC x.calls stops 0 3155932800).2
def pn(l:List dH)(stops av:Int):Int×Int:=if l.length>1024 then(0,5)else bN (kB l stops av) l.length
theorem NX(N:ai)(l:List dH)(hl:l.length≤maxLen∧∀y∈l,y.Ok)(k:Nat)(hk:k<l.length)(rec:W9→Option PV):gi (l.map dH.pv,(l.length:Int),(k:Int),N.stops.map Stop.pv,N.av.map aG.pv,l.map dH.pv,N.aL.map bh.pv,N.paths.map Path.pv,N.aT.map aF.pv,N.bw,N.within,N.cap,0,0,0,seen JM ((l.map fK).take k),()) rec=fS (if kB l N.stops.length N.av.length k=0 then none else some (some (r3 2 k (kB l N.stops.length N.av.length k)))) (rec (l.map dH.pv,(l.length:Int),((k+1:Nat):Int),N.stops.map Stop.pv,N.av.map aG.pv,l.map dH.pv,N.aL.map bh.pv,N.paths.map Path.pv,N.aT.map aF.pv,N.bw,N.within,N.cap,0,0,0,seen JM ((l.map fK).take (k+1)),())):=by
 have hm:=bf;have h1:decide ((k:Int)<(l.length:Int))=true:=by simp;omega
 have hO:=hl.2 _ (agQ hk);have an:=zr l[k].id hO.id;have zh:=RJ l[k].calls N.stops.length 0 3155932800 hO.calls.1;simp only[res]at zh;have rQ:eG (.agg [.str l[k].id,.int .i64 l[k].day,.int .i64 l[k].inst]) (.bool true) (seen JM ((l.map fK).take k))=_:=od UP (fK l[k]) ((l.map fK).take k);have sY:dD (.agg [.str l[k].id,.int .i64 l[k].day,.int .i64 l[k].inst]) (.bool false) (seen JM ((l.map fK).take k))=_:=lP UP (fK l[k]) ((l.map fK).take k);unfold gi;dsimp only;rw[BY h1,aV,IS,AS hk];simp only[adN,U,tW,aag,aah,aai,Jd,zn,cV,asInt,asBool,aQ,T1,T0,an,zh,cO,agU,ahg,Nat.reduceAdd,agL,agH,aZ,oZ,rQ,sY,D8,P8,s8,zK,D7,qG fK l k hk,ah (show k<9223372036854775807 by omega)];unfold kB;rw[AS hk];simp only;generalize (decide (l[k].AE< -1)||decide (l[k].inst<0))=A;generalize (decide (l[k].day<0)||decide (l[k].day>36524))=B;generalize (decide (l[k].ep<0)||decide (l[k].ep≥(N.av.length:Int)))=C;generalize (iC l[k].calls N.stops.length 0 3155932800).2=e;cases jY l[k].id with
 |false=>rfl
 |true=>
  cases A with
  |true=>rfl
  |false=>
   cases B with
   |true=>rfl
   |false=>
    cases C with
    |true=>rfl
    |false=>
     simp only[afj,AT,aha,Xq];by_cases he:e=0
     ·subst he;by_cases bR:fK l[k]∈(l.map fK).take k
      ·simp only[bR,T1,ag6,afj,AT,Xq];rfl
      ·simp only[bR,T1,ag6,agY,afj,AT,Xq];rfl
     ·simp only[he,Xq,T1,agY,agX];rfl
theorem Hy(N:ai)(hl:N.runs.length≤maxLen∧∀y∈N.runs,y.Ok):fb [N.pv]=some (prt 2 (pn N.runs N.stops.length N.av.length)):=by
 have hm:=bf;simp only[fb,l8,jr,js,jt,ju,jw,jx,jy,jz,jB,jC,U,T0];generalize KV:N.runs=l at hl⊢;unfold pn;by_cases wW:l.length>1024
 ·rw[BY (by simp;omega),BY wW];rfl
 ·rw[IN (by simp;omega),IN wW];have hR:some (prt 2 (bN (kB l N.stops.length N.av.length) l.length))=if(bN (kB l N.stops.length N.av.length) l.length).2=0 then some (r3 0 0 0)else some (r3 2 (bN (kB l N.stops.length N.av.length) l.length).1 (bN (kB l N.stops.length N.av.length) l.length).2):=by
   unfold prt;by_cases h:(bN (kB l N.stops.length N.av.length) l.length).2=0
   ·rw[BY h,BY h]
   ·rw[IN h,IN h]
  rw[hR,←iY (kB l N.stops.length N.av.length) l.length (fun i e=>r3 2 i e)];refine bL (fun k=>(l.map dH.pv,(l.length:Int),(k:Int),N.stops.map Stop.pv,N.av.map aG.pv,l.map dH.pv,N.aL.map bh.pv,N.paths.map Path.pv,N.aT.map aF.pv,N.bw,N.within,N.cap,0,0,0,seen JM ((l.map fK).take k),())) l.length _ (fun k hk rec=>NX N l hl k hk rec) (fun rec=>?_) ?_ rfl
  ·unfold gi;dsimp only;rw[IN (by simp)];rfl
  ·have:=bk;omega
theorem NY(N:ai)(l:List dH)(hl:l.length≤maxLen)(i:Nat)(hi:i<l.length):bx.run pq ((i:Int),0,N.stops.map Stop.pv,N.av.map aG.pv,l.map dH.pv,N.aL.map bh.pv,N.paths.map Path.pv,N.aT.map aF.pv,N.bw,N.within,N.cap,.int .i64 l[i].AE,.int .i64 l[i].day,.int .i64 l[i].inst,.str l[i].id,.int .i64 l[i].ep,.bool l[i].free,.bool l[i].Uc,.rs 5 (l[i].calls.map cK.pv),())=if fK l[i]∈(l.map fK).take i then some (.int .i64 6)else some (.int .i64 0):=by
 have hm:=bf;refine(sZ (fun k=>((i:Int),(k:Int),N.stops.map Stop.pv,N.av.map aG.pv,l.map dH.pv,N.aL.map bh.pv,N.paths.map Path.pv,N.aT.map aF.pv,N.bw,N.within,N.cap,PV.int .i64 l[i].AE,PV.int .i64 l[i].day,PV.int .i64 l[i].inst,PV.str l[i].id,PV.int .i64 l[i].ep,PV.bool l[i].free,PV.bool l[i].Uc,PV.rs 5 (l[i].calls.map cK.pv),())) i (fun k=>decide ((l.map fK)[k]?=some (fK l[i]))) (no:=some (.int .i64 6)) (fin:=some (.int .i64 0)) (fun k hk rec=>?_) (fun rec=>?_) ?_ rfl).trans ?_
 ·have h1:decide ((k:Int)<(i:Int))=true:=by simp;omega
  have qd:k<l.length:=by omega
  have hd:decide ((l.map fK)[k]?=some (fK l[i]))=(decide (l[k].id=l[i].id)&&decide (l[k].day=l[i].day)&&decide (l[k].inst=l[i].inst)):=by rw[agV];simp[AS qd,fK,ajT]
  rw[hd];unfold pq;dsimp only;rw[BY h1,aV,IS,AS qd];simp only[adN,U,aag,aah,aai,asInt,cV,T1,ah (show k<9223372036854775807 by omega),fR,aY]
 ·unfold pq;dsimp only;rw[IN (by simp)]
 ·have:=bk;omega
 ·rw[Cc _ _ (by simp;omega)];simp only[No]
theorem Xa(N:ai)(hl:N.runs.length≤maxLen∧∀y∈N.runs,y.Ok)(k:Nat)(hk:k<N.runs.length):og [N.pv,.int .i64 k]=some (.int .i64 (kB N.runs N.stops.length N.av.length k)):=by
 have hm:=bf;have hO:=hl.2 _ (agQ hk);simp only[og,Aq,jr,js,jt,ju,jw,jx,jy,jz,jB,jC,U];generalize KV:N.runs=l at hl hk hO⊢;have hO':l[k].Ok:=by subst KV;exact hO
 have an:=uc l[k].id hO'.id;have zh:=RK l[k].calls N.stops.length 0 3155932800 hO'.calls.1;have ov:=NY N l hl.1 k hk;simp only[asInt,T1,U,aV,IS,AS hk,adN,tW,aag,aah,aai,Jd,Z0,Z1,zn,cV,asBool,aQ,T0,an,zh,D5,aZ,oZ,ov];unfold kB;rw[AS hk];simp only;have hB:(!(decide (l[k].day≥0)&&decide (l[k].day≤36524)))=(decide (l[k].day<0)||decide (l[k].day>36524)):=by rw[agV];simp only[afk,agS,ahv,No,agW];omega
 rw[hB];generalize (decide (l[k].AE< -1)||decide (l[k].inst<0))=A;generalize (decide (l[k].day<0)||decide (l[k].day>36524))=B;generalize (decide (l[k].ep<0)||decide (l[k].ep≥(N.av.length:Int)))=C;generalize (iC l[k].calls N.stops.length 0 3155932800).2=e;cases jY l[k].id with
 |false=>rfl
 |true=>
  cases A with
  |true=>rfl
  |false=>
   cases B with
   |true=>rfl
   |false=>
    cases C with
    |true=>rfl
    |false=>
     simp only[afj,AT,aha,Xq];by_cases he:e=0
     ·subst he;by_cases bR:fK l[k]∈(l.map fK).take k
      ·simp only[bR,T1,ag6,afj,AT,Xq]
      ·simp only[bR,T1,ag6,afj,AT,Xq]
     ·simp only[he,Xq,T1,agY,agX]
def nx(p:List bh)(v:Int):Option Int:=p.foldl (fun o x=>if(x.stay&&decide (x.a=v))=true then some x.b else o) none
theorem aaj(v:Int):nx [] v=none:=rfl
theorem ud(p:List bh)(x:bh)(v:Int):nx (p++[x]) v=if(x.stay&&decide (x.a=v))=true then some x.b else nx p v:=by unfold nx;rw[List.foldl_append];rfl
def it(f:Int→Option Int):Nat→Int→Option Int
 |0,v=>some v
 |m+1,v=>(f v).bind (it f m)
theorem Qb(f:Int→Option Int)(m:Nat)(v:Int):it f (m+1) v=(it f m v).bind f:=by
 induction m generalizing v with
 |zero=>show(f v).bind (it f 0)=f v;cases h:f v<;>rfl
 |succ m ih=>
  show(f v).bind (it f (m+1))=((f v).bind (it f m)).bind f;cases h:f v with
  |none=>rfl
  |some w=>exact ih w
def qN(p:List bh)(a b:Int)(n:Nat):Bool:=(List.range n).any fun t=>decide (it (nx p) (t+1) a=some b)
def yB(f:Int→Option Int):Prop:=∃r:Int→Nat,∀v w,f v=some w→r w<r v
theorem NZ:yB (nx []):=⟨fun _=>0,fun v w h=>by cases h⟩
variable{p:List bh}
theorem UQ{v w:Int}(h:nx p v=some w):∃x∈p,x.stay=true∧x.a=v∧x.b=w:=by
 have key:∀n,n≤p.length→nx (p.take n) v=some w→∃x∈p,x.stay=true∧x.a=v∧x.b=w:=by
  intro n;induction n with
  |zero=>intro _ h;cases h
  |succ n ih=>
   intro hn h;have QI:n<p.length:=by omega
   rw[ag0 QI,ud]at h;by_cases hc:(p[n].stay&&decide (p[n].a=v))=true
   ·rw[BY hc]at h;simp only[T2,No]at hc;exact⟨p[n],agQ QI,hc.1,hc.2,by simpa using h⟩
   ·rw[IN hc]at h;exact ih (by omega) h
 exact key p.length (agM _) (by rw[aht];exact h)
theorem N0{f:Int→Option Int}(hf:yB f)(S:List Int)(hS:∀v w,f v=some w→v∈S):∀m v,it f m v≠none→m≤S.length:=by
 obtain⟨r,hr⟩:=hf;induction hn:S.length generalizing S f r with
 |zero=>
  intro m v h;cases m with
  |zero=>omega
  |succ m=>
   exfalso;cases hfv:f v with
   |none=>exact h (by show(f v).bind _=none;rw[hfv];rfl)
   |some w=>have:=hS v w hfv;rw[List.length_eq_zero_iff.1 hn]at this;cases this
 |succ n ih=>
  intro m v h;cases m with
  |zero=>omega
  |succ m=>
   cases hfv:f v with
   |none=>exact absurd (by show(f v).bind _=none;rw[hfv];rfl) h
   |some w=>
    have hvS:=hS v w hfv;let g:Int→Option Int:=fun x=>if x=v then none else f x;have hg:∀x y,g x=some y→r y<r x:=fun x y Xb=>by
     by_cases hx:x=v
     ·simp[g,hx]at Xb
     ·simp only[g,hx,Xq]at Xb;exact hr x y Xb
    have hgS:∀x y,g x=some y→x∈S.erase v:=fun x y Xb=>by
     by_cases hx:x=v
     ·simp[g,hx]at Xb
     ·simp only[g,hx,Xq]at Xb;exact(List.mem_erase_of_ne hx).2 (hS x y Xb)
    have hlen:(S.erase v).length=n:=by rw[List.length_erase_of_mem hvS];omega
    have Tm:∀k x,r x<r v→it g k x=it f k x:=by
     intro k;induction k with
     |zero=>intros;rfl
     |succ k Y9=>
      intro x hx;have hxv:x≠v:=fun h=>by subst h;omega
      show(g x).bind (it g k)=(f x).bind (it f k);have:g x=f x:=by simp[g,hxv]
      rw[this];cases hfx:f x with
      |none=>rfl
      |some y=>exact Y9 y (by have:=hr x y hfx;omega)
    have hw:it f m w≠none:=by intro hc;apply h;show(f v).bind (it f m)=none;rw[hfv];exact hc
    have:=ih (S.erase v) hgS r hg hlen m w (by rw[Tm m w (hr v w hfv)];exact hw);omega
theorem Hz(hp:yB (nx p)){m:Nat}(hm:p.length<m)(v:Int):it (nx p) m v=none:=by
 cases h:it (nx p) m v with
 |none=>rfl
 |some w=>have:=N0 hp (p.map bh.a) (fun x y Xb=>by obtain⟨l,h1,h2,h3,h4⟩:=UQ Xb;exact agZ.2 ⟨l,h1,h3⟩) m v (by rw[h];exact fun h=>nomatch h);rw[T0]at this;omega
theorem JN(hp:yB (nx p))(x:bh)(h:x.stay=false∨(x.a≠x.b∧nx p x.a=none∧qN p x.b x.a (p.length+1)=false)):yB (nx (p++[x])):=by
 cases hs:x.stay with
 |false=>obtain⟨r,hr⟩:=hp;refine⟨r,fun v w VG=>hr v w ?_⟩;rw[ud,hs,aiy,IN (by simp)]at VG;exact VG
 |true=>
  rw[hs]at h;rcases h with h|⟨sl,hna,UR⟩
  ·cases h
  have GJ:=hp;obtain⟨r,hr⟩:=hp;have Bk:∀t,it (nx p) (t+1) x.b≠some x.a:=by
   intro t ht;by_cases bS:t<p.length+1
   ·unfold qN at UR;rw[List.any_eq_false]at UR;exact UR t (by simpa using bS) (by simpa using ht)
   ·rw[Hz GJ (by omega)]at ht;cases ht
  let R:Int→Prop:=fun v=>∃t,it (nx p) t v=some x.a;have hRb:¬R x.b:=fun⟨t,ht⟩=>by
   cases t with
   |zero=>exact sl (by simpa[it]using ht.symm)
   |succ t=>exact Bk t ht
  refine⟨fun v=>open Classical in if R v then r v+r x.b+1 else r v,fun v w VG=>?_⟩;rw[ud,hs,ahW]at VG;by_cases hv:x.a=v
  ·rw[BY (by simpa using hv)]at VG;simp only[AI]at VG;subst VG;have hRv:R v:=⟨0,by show some v=some x.a;rw[hv]⟩;show(open Classical in if R x.b then r x.b+r x.b+1 else r x.b)<(open Classical in if R v then r v+r x.b+1 else r v);rw[IN hRb,BY hRv];omega
  ·rw[IN (by simpa using hv)]at VG;have bS:=hr v w VG;show(open Classical in if R w then r w+r x.b+1 else r w)<(open Classical in if R v then r v+r x.b+1 else r v);by_cases hw:R w
   ·have hRv:R v:=by obtain⟨t,ht⟩:=hw;exact⟨t+1,by show(nx p v).bind (it (nx p) t)=some x.a;rw[VG];exact ht⟩
    rw[BY hw,BY hRv];omega
   ·rw[IN hw];by_cases hRv:R v
    ·rw[BY hRv];omega
    ·rw[IN hRv];exact bS
def rA(a:Int):PV:=.int .i64 a
def cX(x:bh):Int×Int×Int×Int:=(x.a,x.ac,x.b,x.bc)
def JO(x:Int×Int×Int×Int):PV:=.agg [.int .i64 x.1,.int .i64 x.2.1,.int .i64 x.2.2.1,.int .i64 x.2.2.2]
theorem US(a b:Int×Int×Int×Int):dF (JO a).cells (JO b).cells=decide (a=b):=by obtain⟨a1,a2,a3,a4⟩:=a;obtain⟨b1,b2,b3,b4⟩:=b;rw[agV];simp[JO,PV.cells,dF,peq]
def xz(p:List bh):List (Int×PV):=p.foldl (fun m x=>if x.stay=true then yC x.a (.int .i64 x.b) m else m) []
theorem yD(p:List bh)(x:bh):xz (p++[x])=if x.stay=true then yC x.a (.int .i64 x.b) (xz p)else xz p:=by unfold xz;rw[List.foldl_append];rfl
def N1(a:Int)(m:List (Int×PV)):Bool:=m.any fun x=>decide (a=x.1)
theorem Qc(a:Int):∀m,uy (rA a) (uu rA m)=N1 a m
 |[]=>rfl
 |(b,u)::r=>by have:=Qc a r;simp only[uu]at this;simp only[uu,agP,uy,N1,ahG];rw[this];have:dF (rA a).cells (rA b).cells=decide (a=b):=zu a b;rw[this];rfl
theorem JP(a b:Int)(v:PV):∀m,N1 a (yC b v m)=(decide (a=b)||N1 a m)
 |[]=>by simp[N1,yC]
 |(c,u)::r=>by
  have:=JP a b v r;simp only[N1]at this⊢;by_cases h:b=c
  ·subst h;simp[yC]
  ·simp only[yC,h,Xq,ahG,this];cases decide (a=c)<;>simp
theorem Ea{A:Type}{P:List A→Prop}(h0:P [])(h1:∀p x,P p→P (p++[x]))(l:List A):P l:=by
 have key:∀n,n≤l.length→P (l.take n):=by
  intro n;induction n with
  |zero=>intro _;rw[aid];exact h0
  |succ n ih=>intro hn;rw[ag0 (show n<l.length by omega)];exact h1 _ _ (ih (by omega))
 have:=key l.length (agM _);rw[aht]at this;exact this
theorem RN(p:List bh)(v:Int):vV v (.int .i64 0) (xz p)=.int .i64 ((nx p v).getD 0):=by
 induction p using Ea with
 |h0=>rfl
 |h1 p x ih=>
  rw[yD,ud];cases hs:x.stay with
  |false=>rw[IN (by simp),aiy,IN (by simp)];exact ih
  |true=>
   rw[BY rfl,AH,ahW];by_cases h:x.a=v
   ·rw[BY h.symm,BY (by simpa using h)];rfl
   ·rw[IN (fun hc=>h hc.symm),IN (by simpa using h)];exact ih
theorem UT(p:List bh)(v:Int):N1 v (xz p)=(nx p v).isSome:=by
 induction p using Ea with
 |h0=>rfl
 |h1 p x ih=>
  rw[yD,ud];cases hs:x.stay with
  |false=>rw[IN (by simp),aiy,IN (by simp)];exact ih
  |true=>
   rw[BY rfl,JP,ahW];by_cases h:x.a=v
   ·rw[BY (by simpa using h)];simp[h]
   ·rw[IN (by simpa using h),ih];have:decide (v=x.a)=false:=by simpa using fun hc=>h hc.symm
    rw[this,ahA]
def oh(p:List bh):List (PV×PV):=uu rA (xz p)
theorem yE(p:List bh)(v:Int):dD (.int .i64 v) (.int .i64 0) (oh p)=.int .i64 ((nx p v).getD 0):=by have:=Eb (key:=rA) zu v (.int .i64 0) (xz p);rw[RN]at this;exact this
theorem AJ(p:List bh)(v:Int):uy (.int .i64 v) (oh p)=(nx p v).isSome:=by have:=Qc v (xz p);rw[UT]at this;exact this
theorem N2(p:List bh)(x:bh):oh (p++[x])=if x.stay=true then eG (.int .i64 x.a) (.int .i64 x.b) (oh p)else oh p:=by
 have:=HA (key:=rA) zu x.a (.int .i64 x.b) (xz p);unfold oh;rw[yD];by_cases h:x.stay=true
 ·rw[BY h,BY h];exact this.symm
 ·rw[IN h,IN h]
def mU(p:List bh):List Int:=(p.filter bh.stay).map bh.b
theorem N3(p:List bh)(x:bh):mU (p++[x])=if x.stay=true then mU p++[x.b]else mU p:=by unfold mU;by_cases h:x.stay=true<;>simp[aiE,ah2,h]
theorem RO(p:List bh)(v:Int):(nx p v).isSome=p.any fun y=>y.stay&&decide (y.a=v):=by
 induction p using Ea with
 |h0=>rfl
 |h1 p x ih=>
  rw[ud,aik,←ih];by_cases h:(x.stay&&decide (x.a=v))=true
  ·rw[BY h];simp only[ahG,aiN,h];simp
  ·rw[IN h];simp only[ahG,aiN,h];simp
theorem UU(p:List bh)(v:Int):decide (v∈mU p)=p.any fun y=>y.stay&&decide (y.b=v):=by
 rw[agV,No];simp only[mU,No,agZ,aii,aip,T2];constructor
 ·rintro⟨x,⟨h1,h2⟩,h3⟩;exact⟨x,h1,h2,h3⟩
 ·rintro⟨x,h1,h2,h3⟩;exact⟨x,⟨h1,h2⟩,h3⟩
def aak(f:Int→Option Int)(a b:Int)(t:Nat):Option (Option PV):=(it f (t+1) a).elim (some (some (.bool false))) fun v=>if v=b then some (some (.bool true))else none
theorem N4(f:Int→Option Int)(b:Int)(n:Nat):∀a,it f (n+1) a=none→fS ((List.range n).findSome? (aak f a b)) (some (.bool false))=some (.bool ((List.range (n+1)).any fun t=>decide (it f (t+1) a=some b))):=by
 induction n with
 |zero=>intro a h;simp[fS,h]
 |succ n ih=>
  intro a h;rw[ait (n:=n+1),ait (n:=n),ahU,ahG];have h0:it f (0+1) a=f a:=by show(f a).bind (it f 0)=f a;cases hf:f a<;>rfl
  unfold aak;rw[h0];cases hf:f a with
  |none=>
   have hz:∀t,it f (t+1) a=none:=fun t=>by show(f a).bind _=none;rw[hf];rfl
   simp only[Option.elim,fS,List.any_map,ajk,hz];simp
  |some v=>
   have hs:∀t,it f (t+1+1) a=it f (t+1) v:=fun t=>by show(f a).bind _=_;rw[hf];rfl
   by_cases hv:v=b
   ·subst hv;simp only[Option.elim,T1,fS,ag6,ajW]
   ·have hd:decide (some v=some b)=false:=by simpa using hv
    simp only[Option.elim,IN hv,hd,ahA];have:=ih v (by rw[←hs];exact h);rw[List.findSome?_map,List.any_map];simp only[ajk,Nat.succ_eq_add_one,hs];rw[←ait];exact this
theorem N5(p:List bh)(hp:yB (nx p))(hl:p.length≤maxLen)(a b:Int):iT [.rm 3 ((oh p).map fun x=>x.fst) ((oh p).map fun x=>x.snd),.int .i64 a,.int .i64 b]=some (.bool (qN p a b (p.length+1))):=by
 have hz:((oh p).map fun x=>x.fst).zip ((oh p).map fun x=>x.snd)=oh p:=by
  generalize oh p=m;induction m with
  |nil=>rfl
  |cons x m ih=>simp only[agP,ajc,ih]
 simp only[iT,rS,dJ,T1,asInt,U,hz,yE,AJ];unfold qN;rw[←N4 (nx p) b p.length a (Hz hp (by omega) a)];refine bL (fun t=>(PV.rm 3 ((oh p).map fun x=>x.fst) ((oh p).map fun x=>x.snd),b,(it (nx p) (t+1) a).getD 0,(it (nx p) (t+1) a).isSome,())) p.length _ (fun t ht rec=>?_) (fun rec=>?_) (by have:=bk;omega) ?_
 ·unfold kj aak;dsimp only;rw[Qb (nx p) (t+1) a];cases hv:it (nx p) (t+1) a with
  |none=>rfl
  |some v=>
   simp only[Option.isSome_some,ahB,T1,fR,No,Option.elim];by_cases Xc:v=b
   ·rw[BY Xc,BY Xc];rfl
   ·rw[IN Xc,IN Xc];simp only[dJ,T1,hz,yE,AJ,asInt,U,fS,agO]
 ·unfold kj;dsimp only;rw[Hz hp (by omega)];rfl
 ·show(_,b,(it (nx p) 1 a).getD 0,(it (nx p) 1 a).isSome,())=_;have:it (nx p) 1 a=nx p a:=by show(nx p a).bind _=_;cases nx p a<;>rfl
  rw[this]
def bt(runs:List dH)(a:Int):List cK:=((runs[a.toNat]?).map dH.calls).getD []
def vW(cs:List cK)(c:Int):Int:=((cs[c.toNat]?).map cK.stop).getD 0
def Ec(x:bh)(R:Int):Bool:= !(decide (x.a≥0)&&decide (x.a<R))|| !(decide (x.b≥0)&&decide (x.b<R))||decide (x.a=x.b)
def BE(x:bh)(A B:Int):Bool:= !(decide (x.ac≥0)&&decide (x.ac<A))|| !(decide (x.bc≥0)&&decide (x.bc<B))
def BF(p:List bh)(x:bh)(A:Int):Bool:=x.stay&&(!decide (x.ac+1=A)|| !decide (x.bc=0)||(nx p x.a).isSome||decide (x.b∈mU p)||qN p x.b x.a (p.length+1))
def cG(runs:List dH)(l:List bh)(k:Nat):Int:=match l[k]? with
 |none=>0
 |some x=>if Ec x runs.length=true then 9 else if BE x (bt runs x.a).length (bt runs x.b).length=true then 9 else if vW (bt runs x.a) x.ac≠vW (bt runs x.b) x.bc then 13 else if BF (l.take k) x (bt runs x.a).length=true then 19 else if cX x∈(l.map cX).take k then 6 else 0
def me(runs:List dH)(l:List bh):Int×Int:=if l.length>1024 then(0,5)else bN (cG runs l) l.length
theorem Ee(runs:List dH)(l:List bh)(k:Nat)(hk:k≤l.length)(h:∀j,j<k→cG runs l j=0):yB (nx (l.take k))∧∀x∈l.take k,0≤x.a:=by
 induction k with
 |zero=>rw[aid];exact⟨NZ,fun x hx=>by cases hx⟩
 |succ k ih=>
  have qd:k<l.length:=by omega
  obtain⟨h1,h2⟩:=ih (by omega) fun j hj=>h j (by omega);have hz:=h k (by omega);unfold cG at hz;rw[AS qd]at hz;simp only at hz;have hr:Ec l[k] runs.length=false:=by
   cases hr:Ec l[k] runs.length with
   |false=>rfl
   |true=>rw[hr,BY rfl]at hz;cases hz
  have hs:BF (l.take k) l[k] (bt runs l[k].a).length=false:=by
   cases hs:BF (l.take k) l[k] (bt runs l[k].a).length with
   |false=>rfl
   |true=>
    rw[hs]at hz;split at hz
    ·cases hz
    ·split at hz
     ·cases hz
     ·split at hz
      ·cases hz
      ·rw[BY rfl]at hz;cases hz
  unfold Ec at hr;simp only[ahi,ahF,T2,No,agW]at hr;rw[ag0 qd];refine⟨JN h1 l[k] ?_,fun x hx=>?_⟩
  ·unfold BF at hs;cases pw:l[k].stay with
   |false=>exact Or.inl rfl
   |true=>
    rw[pw,ahW]at hs;simp only[ahi]at hs;refine Or.inr ⟨hr.2,?_,hs.2⟩;have:=hs.1.1.2;cases hn:nx (l.take k) l[k].a with
    |none=>rfl
    |some w=>rw[hn]at this;cases this
  ·rcases ag2.1 hx with hx|hx
   ·exact h2 x hx
   ·rw[aiu]at hx;subst hx;exact hr.1.1.1
theorem zw(runs:List dH)(a:Int)(h:0≤a∧a<(runs.length:Int)):∃r∈runs,aM (runs.map dH.pv) a=some r.pv∧bt runs a=r.calls:=by
 obtain⟨n,rfl⟩:=ajs h.1;have hn:n<runs.length:=by omega
 refine⟨runs[n],agQ hn,?_,?_⟩
 ·rw[aV,IS,AS hn];rfl
 ·unfold bt;rw[afm,AS hn];rfl
theorem wQ(cs:List cK)(c:Int)(h:0≤c∧c<(cs.length:Int)):∃r,aM (cs.map cK.pv) c=some r∧cell r 0=.int .i64 (vW cs c):=by
 obtain⟨n,rfl⟩:=ajs h.1;have hn:n<cs.length:=by omega
 refine⟨cs[n].pv,?_,?_⟩
 ·rw[aV,IS,AS hn];rfl
 ·unfold vW;rw[afm,AS hn];rfl
theorem vX{runs:List dH}(h:∀y∈runs,y.Ok)(a:Int):(bt runs a).length≤maxLen:=by
 unfold bt;cases hr:runs[a.toNat]? with
 |none=>simp
 |some r=>exact(h r (aaQ hr)).calls.1
theorem JQ(N:ai)(runs:List dH)(hr:∀y∈runs,y.Ok)(l:List bh)(hl:l.length≤maxLen)(k:Nat)(hk:k<l.length)(EJ:∀j,j<k→cG runs l j=0)(rec:TY0→Option PV):fP (l.map bh.pv,(l.length:Int),(k:Int),N.stops.map Stop.pv,N.av.map aG.pv,runs.map dH.pv,l.map bh.pv,N.paths.map Path.pv,N.aT.map aF.pv,N.bw,N.within,N.cap,0,0,0,oh (l.take k),seen rA (mU (l.take k)),seen JO ((l.map cX).take k),()) rec=fS (if cG runs l k=0 then none else some (some (r3 3 k (cG runs l k)))) (rec (l.map bh.pv,(l.length:Int),((k+1:Nat):Int),N.stops.map Stop.pv,N.av.map aG.pv,runs.map dH.pv,l.map bh.pv,N.paths.map Path.pv,N.aT.map aF.pv,N.bw,N.within,N.cap,0,0,0,oh (l.take (k+1)),seen rA (mU (l.take (k+1))),seen JO ((l.map cX).take (k+1)),())):=by
 have hm:=bf;have h1:decide ((k:Int)<(l.length:Int))=true:=by simp;omega
 obtain⟨abX,_⟩:=Ee runs l k (by omega) EJ;have hlen:(l.take k).length=k:=by simp;omega
 have AK:=N5 (l.take k) abX (by omega) l[k].b l[k].a;have rQ:eG (.agg [.int .i64 l[k].a,.int .i64 l[k].ac,.int .i64 l[k].b,.int .i64 l[k].bc]) (.bool true) (seen JO ((l.map cX).take k))=_:=od US (cX l[k]) ((l.map cX).take k);have sY:dD (.agg [.int .i64 l[k].a,.int .i64 l[k].ac,.int .i64 l[k].b,.int .i64 l[k].bc]) (.bool false) (seen JO ((l.map cX).take k))=_:=lP US (cX l[k]) ((l.map cX).take k);have abY:eG (.int .i64 l[k].b) (.bool true) (seen rA (mU (l.take k)))=_:=od (key:=rA) zu l[k].b (mU (l.take k));have aal:dD (.int .i64 l[k].b) (.bool false) (seen rA (mU (l.take k)))=_:=lP (key:=rA) zu l[k].b (mU (l.take k));have hsn:l.take (k+1)=l.take k++[l[k]]:=ag0 hk;unfold fP;dsimp only;rw[BY h1,aV,IS,AS hk,hsn,N2,N3,qG cX l k hk];simp only[adN,U,DO,Je,link2,Jf,F4,asInt,asBool,T1,T0,yA,aZ,fR];unfold cG;rw[AS hk];simp only;have hR:(!(decide (l[k].a≥0)&&decide (l[k].a<(runs.length:Int)))|| !(decide (l[k].b≥0)&&decide (l[k].b<(runs.length:Int)))||decide (l[k].a=l[k].b))=Ec l[k] runs.length:=rfl;rw[hR];cases hb:Ec l[k] runs.length with
 |true=>simp only[T1,D8,U,P8,s8,zK,D7];rfl
 |false=>
  unfold Ec at hb;simp only[ahi,ahF,T2,No,agW]at hb;obtain⟨ra,hra,hia,Zl⟩:=zw runs l[k].a ⟨hb.1.1.1,hb.1.1.2⟩;obtain⟨rb,Tp,Ze,NN⟩:=zw runs l[k].b ⟨hb.1.2.1,hb.1.2.2⟩;have hA:=vX hr l[k].a;rw[hia,Ze];simp only[U,zn,aQ,T1,T0,←Zl,←NN,yA,asBool,aZ];have hC:(!(decide (l[k].ac≥0)&&decide (l[k].ac<((bt runs l[k].a).length:Int)))|| !(decide (l[k].bc≥0)&&decide (l[k].bc<((bt runs l[k].b).length:Int))))=BE l[k] (bt runs l[k].a).length (bt runs l[k].b).length:=rfl;rw[hC];cases Dz:BE l[k] (bt runs l[k].a).length (bt runs l[k].b).length with
  |true=>simp only[T1,D8,U,P8,s8,zK,D7];rfl
  |false=>
   unfold BE at Dz;simp only[ahi,ahF,T2,No]at Dz;obtain⟨ka,Zh,hsa⟩:=wQ (bt runs l[k].a) l[k].ac Dz.1;obtain⟨kb,hkb,Zm⟩:=wQ (bt runs l[k].b) l[k].bc Dz.2;have hw:IntKind.i64.wrap (l[k].ac+1)=l[k].ac+1:=br (by omega) (by omega);simp only[AT,Xq,Zh,hkb,U,hsa,Zm,yE,AJ,sY,aal,rQ,abY,asInt,asBool,T1,AK,hw,hlen,aZ,aY,oZ,D8,P8,s8,zK,D7,ah (show k<9223372036854775807 by omega)];have hS:(l[k].stay&&(!decide (l[k].ac+1=((bt runs l[k].a).length:Int))|| !decide (l[k].bc=0)||(nx (l.take k) l[k].a).isSome||decide (l[k].b∈mU (l.take k))||qN (l.take k) l[k].b l[k].a (k+1)))=BF (l.take k) l[k] (bt runs l[k].a).length:=by unfold BF;rw[hlen]
   rw[hS];generalize BF (l.take k) l[k] (bt runs l[k].a).length=S;by_cases pw:vW (bt runs l[k].a) l[k].ac=vW (bt runs l[k].b) l[k].bc
   ·simp only[pw,ag6,afj,AT,Xq,aj0,not_true];cases S with
    |true=>rfl
    |false=>
     by_cases bR:cX l[k]∈(l.map cX).take k
     ·simp only[bR,ag6,T1,AT,Xq];rfl
     ·simp only[bR,agY,T1,AT,Xq];cases l[k].stay<;>rfl
   ·simp only[pw,agY,agX,T1,aj0,aiI];rfl
theorem EN(N:ai)(hr:N.runs.length≤maxLen∧∀y∈N.runs,y.Ok)(hl:N.aL.length≤maxLen):dA [N.pv]=some (prt 3 (me N.runs N.aL)):=by
 have hm:=bf;simp only[dA,lE,jr,js,jt,ju,jw,jx,jy,jz,jB,jC,U,T0];generalize KV:N.aL=l at hl⊢;generalize yK:N.runs=runs at hr⊢;unfold me;by_cases wW:l.length>1024
 ·rw[BY (by simp;omega),BY wW];rfl
 ·rw[IN (by simp;omega),IN wW];have hR:some (prt 3 (bN (cG runs l) l.length))=if(bN (cG runs l) l.length).2=0 then some (r3 0 0 0)else some (r3 3 (bN (cG runs l) l.length).1 (bN (cG runs l) l.length).2):=by
   unfold prt;by_cases h:(bN (cG runs l) l.length).2=0
   ·rw[BY h,BY h]
   ·rw[IN h,IN h]
  rw[hR,←iY (cG runs l) l.length (fun i e=>r3 3 i e)];refine xy (fun k=>(l.map bh.pv,(l.length:Int),(k:Int),N.stops.map Stop.pv,N.av.map aG.pv,runs.map dH.pv,l.map bh.pv,N.paths.map Path.pv,N.aT.map aF.pv,N.bw,N.within,N.cap,0,0,0,oh (l.take k),seen rA (mU (l.take k)),seen JO ((l.map cX).take k),())) l.length _ (fun k hk EJ rec=>JQ N runs hr.2 l hl k hk (fun j hj=>?_) rec) (fun _ rec=>?_) (by have:=bk;omega) rfl
  ·have:=EJ j hj;by_cases h0:cG runs l j=0
   ·exact h0
   ·rw[IN h0]at this;cases this
  ·unfold fP;dsimp only;rw[IN (by simp)];rfl
theorem RP(N:ai)(i:Nat)(hi:i<N.aL.length)(hl:N.aL.length≤maxLen)(hp:∀x∈N.aL.take i,0≤x.a)(a b:Int)(hb:0≤b):kY [N.pv,.int .i64 i,.int .i64 a,.int .i64 b]=some (.bool (qN (N.aL.take i) a b (i+1))):=by
 have hm:=bf;simp only[kY,vu,jr,js,jt,ju,jw,jx,jy,jz,jB,jC,U];simp only[asInt,T1,U];generalize KV:N.aL=l at hl hi hp⊢;have W0:nx (l.take i) (-1)=none:=by
  cases hn:nx (l.take i) (-1)with
  |none=>rfl
  |some w=>obtain⟨x,hx,_,hxa,_⟩:=UQ hn;have:=hp x hx;omega
 have Cz:∀t,(nx (l.take i) ((it (nx (l.take i)) t a).getD (-1))).getD (-1)=(it (nx (l.take i)) (t+1) a).getD (-1):=by
  intro t;rw[Qb];cases it (nx (l.take i)) t a with
  |none=>simp only[Option.getD_none,Option.bind_none,W0]
  |some v=>rfl
 have ov:∀(c:Int)(t:Nat)eU,bx.run (mE eU) ((i:Int),c,b,(t:Int),-1,0,N.stops.map Stop.pv,N.av.map aG.pv,N.runs.map dH.pv,l.map bh.pv,N.paths.map Path.pv,N.aT.map aF.pv,N.bw,N.within,N.cap,())=if(nx (l.take i) c).getD (-1)=b then some (.bool true)else eU ((i:Int),(nx (l.take i) c).getD (-1),b,IntKind.i64.wrap ((t:Int)+1),N.stops.map Stop.pv,N.av.map aG.pv,N.runs.map dH.pv,l.map bh.pv,N.paths.map Path.pv,N.aT.map aF.pv,N.bw,N.within,N.cap,()):=by
  intro c t eU;refine bT (fun k=>((i:Int),c,b,(t:Int),(nx (l.take k) c).getD (-1),(k:Int),N.stops.map Stop.pv,N.av.map aG.pv,N.runs.map dH.pv,l.map bh.pv,N.paths.map Path.pv,N.aT.map aF.pv,N.bw,N.within,N.cap,())) i (fun k hk rec=>?_) (fun rec=>?_) (by have:=bk;omega) (by rw[aid,aaj];rfl)
  ·have h1:decide ((k:Int)<(i:Int))=true:=by simp;omega
   have qd:k<l.length:=by omega
   unfold mE;dsimp only;rw[BY h1,aV,IS,AS qd,ag0 qd,ud];simp only[adN,U,DO,link2,F4,asInt,asBool,T1,aY,fR,ah (show k<9223372036854775807 by omega)];by_cases hc:(l[k].stay&&decide (l[k].a=c))=true
   ·rw[BY hc,BY hc];rfl
   ·rw[IN hc,IN hc]
  ·unfold mE;dsimp only;rw[IN (by simp)];simp only[fR,No]
 unfold qN;have ow:bx.run (mF bx) ((i:Int),a,b,0,N.stops.map Stop.pv,N.av.map aG.pv,N.runs.map dH.pv,l.map bh.pv,N.paths.map Path.pv,N.aT.map aF.pv,N.bw,N.within,N.cap,())=if((List.range (i+1)).any fun t=>decide (it (nx (l.take i)) (t+1) a=some b))=true then some (PV.bool true)else some (PV.bool false):=by
  refine sZ (fun t:Nat=>((i:Int),(it (nx (l.take i)) t a).getD (-1),b,(t:Int),N.stops.map Stop.pv,N.av.map aG.pv,N.runs.map dH.pv,l.map bh.pv,N.paths.map Path.pv,N.aT.map aF.pv,N.bw,N.within,N.cap,())) (i+1) (fun t=>decide (it (nx (l.take i)) (t+1) a=some b)) (no:=some (PV.bool true)) (fin:=some (PV.bool false)) (fun t ht rec=>?_) (fun rec=>?_) (by have:=bk;omega) rfl
  ·have h1:decide ((t:Int)≤(i:Int))=true:=by simp;omega
   unfold mF;dsimp only;rw[BY h1,ov,Cz,ah (by omega)];cases hv:it (nx (l.take i)) (t+1) a with
   |none=>rw[IN (by simp only[Option.getD_none];omega),IN (by simp)]
   |some v=>
    by_cases Xc:v=b
    ·rw[BY (by simpa using Xc),BY (by simpa using Xc)]
    ·rw[IN (by simpa using Xc),IN (by simpa using Xc)]
  ·unfold mF;dsimp only;rw[IN (by simp;omega)]
 rw[ow];cases(List.range (i+1)).any fun t=>decide (it (nx (l.take i)) (t+1) a=some b)<;>rfl
theorem RQ(l:List bh)(P:bh→Bool)(k:Nat)(hk:k≤l.length):((List.range k).any fun j=>(l[j]?).elim false P)=(l.take k).any P:=by
 induction k with
 |zero=>rfl
 |succ k ih=>
  have qd:k<l.length:=by omega
  rw[ajz,aik,ih (by omega),ag0 qd,aik];simp only[ahG,aiN,AS qd,Option.elim]
theorem UW(N:ai)(hr:N.runs.length≤maxLen∧∀y∈N.runs,y.Ok)(hl:N.aL.length≤maxLen)(k:Nat)(hk:k<N.aL.length)(EJ:∀j,j<k→cG N.runs N.aL j=0):mG [N.pv,.int .i64 k]=some (.int .i64 (cG N.runs N.aL k)):=by
 have hm:=bf;obtain⟨_,er⟩:=Ee N.runs N.aL k (by omega) EJ;have AK:=fun a b hb=>RP N k hk hl er a b hb;have hE:=nY N;simp only[mG,yn,jr,js,jt,ju,jw,jx,jy,jz,jB,jC,U];rw[←nY N]at AK;generalize KV:N.aL=l at hl hk er AK⊢;generalize yK:N.runs=runs at hr AK⊢;have hw0:IntKind.i64.wrap ((runs.length:Int)-1)=(runs.length:Int)-1:=br (by omega) (by omega);simp only[asInt,T1,U,aV,IS,AS hk,adN,DO,Je,link2,Jf,F4,asBool,T0,hw0,D5,aZ,fR];unfold cG;rw[AS hk];simp only;have hR:(!(decide (l[k].a≥0)&&decide (l[k].a≤(runs.length:Int)-1))|| !(decide (l[k].b≥0)&&decide (l[k].b≤(runs.length:Int)-1))||decide (l[k].a=l[k].b))=Ec l[k] runs.length:=by unfold Ec;rw[agV];simp only[afk,agS,ahv,No,agW];omega
 rw[hR];cases hb:Ec l[k] runs.length with
 |true=>simp only[T1]
 |false=>
  unfold Ec at hb;simp only[ahi,ahF,T2,No,agW]at hb;obtain⟨ra,hra,hia,Zl⟩:=zw runs l[k].a ⟨hb.1.1.1,hb.1.1.2⟩;obtain⟨rb,Tp,Ze,NN⟩:=zw runs l[k].b ⟨hb.1.2.1,hb.1.2.2⟩;have hA:=vX hr.2 l[k].a;have hB:=vX hr.2 l[k].b;rw[hia,Ze];simp only[U,zn,aQ,T1,T0,←Zl,←NN];have hwA:IntKind.i64.wrap (((bt runs l[k].a).length:Int)-1)=((bt runs l[k].a).length:Int)-1:=br (by omega) (by omega);have hwB:IntKind.i64.wrap (((bt runs l[k].b).length:Int)-1)=((bt runs l[k].b).length:Int)-1:=br (by omega) (by omega);simp only[hwA,hwB,D5,asBool,U,aZ];have hC:(!(decide (l[k].ac≥0)&&decide (l[k].ac≤((bt runs l[k].a).length:Int)-1))|| !(decide (l[k].bc≥0)&&decide (l[k].bc≤((bt runs l[k].b).length:Int)-1)))=BE l[k] (bt runs l[k].a).length (bt runs l[k].b).length:=by unfold BE;rw[agV];simp only[afk,agS,ahv,No,agW];omega
  rw[hC];cases Dz:BE l[k] (bt runs l[k].a).length (bt runs l[k].b).length with
  |true=>simp only[T1,AT,Xq]
  |false=>
   unfold BE at Dz;simp only[ahi,ahF,T2,No]at Dz;obtain⟨ka,Zh,hsa⟩:=wQ (bt runs l[k].a) l[k].ac Dz.1;obtain⟨kb,hkb,Zm⟩:=wQ (bt runs l[k].b) l[k].bc Dz.2;simp only[AT,Xq,Zh,hkb,U,hsa,Zm,asInt,asBool,T1,aZ,aY,oZ];by_cases pw:vW (bt runs l[k].a) l[k].ac=vW (bt runs l[k].b) l[k].bc
   ·simp only[pw,ag6,afj,AT,Xq,aj0,not_true];have DP:bx.run nN ((k:Int),0,N.stops.map Stop.pv,N.av.map aG.pv,runs.map dH.pv,l.map bh.pv,N.paths.map Path.pv,N.aT.map aF.pv,N.bw,N.within,N.cap,.int .i64 l[k].a,.int .i64 l[k].ac,.int .i64 l[k].b,.int .i64 l[k].bc,.bool l[k].stay,())=if cX l[k]∈(l.map cX).take k then some (.int .i64 6)else some (.int .i64 0):=by
     refine(sZ (fun j=>((k:Int),(j:Int),N.stops.map Stop.pv,N.av.map aG.pv,runs.map dH.pv,l.map bh.pv,N.paths.map Path.pv,N.aT.map aF.pv,N.bw,N.within,N.cap,PV.int .i64 l[k].a,PV.int .i64 l[k].ac,PV.int .i64 l[k].b,PV.int .i64 l[k].bc,PV.bool l[k].stay,())) k (fun j=>decide ((l.map cX)[j]?=some (cX l[k]))) (no:=some (.int .i64 6)) (fin:=some (.int .i64 0)) (fun j hj rec=>?_) (fun rec=>?_) (by have:=bk;omega) rfl).trans ?_
     ·have h1:decide ((j:Int)<(k:Int))=true:=by simp;omega
      have H7:j<l.length:=by omega
      have hd:decide ((l.map cX)[j]?=some (cX l[k]))=(decide (l[j].a=l[k].a)&&decide (l[j].ac=l[k].ac)&&decide (l[j].b=l[k].b)&&decide (l[j].bc=l[k].bc)):=by rw[agV];simp[AS H7,cX,ajT]
      rw[hd];unfold nN;dsimp only;rw[BY h1,aV,IS,AS H7];simp only[adN,U,DO,Je,link2,Jf,asInt,T1,ah (show j<9223372036854775807 by omega),fR,aY]
     ·unfold nN;dsimp only;rw[IN (by simp)]
     ·rw[Cc _ _ (by simp;omega)];simp only[No]
    have ae6:bx.run (nO bx) ((k:Int),0,N.stops.map Stop.pv,N.av.map aG.pv,runs.map dH.pv,l.map bh.pv,N.paths.map Path.pv,N.aT.map aF.pv,N.bw,N.within,N.cap,.int .i64 l[k].a,.int .i64 l[k].ac,.int .i64 l[k].b,.int .i64 l[k].bc,.bool l[k].stay,())=if(l[k].stay&&((nx (l.take k) l[k].a).isSome||decide (l[k].b∈mU (l.take k))))=true then some (.int .i64 19)else if(l[k].stay&&qN (l.take k) l[k].b l[k].a (k+1))=true then some (.int .i64 19)else if cX l[k]∈(l.map cX).take k then some (.int .i64 6)else some (.int .i64 0):=by
     refine(sZ (fun j=>((k:Int),(j:Int),N.stops.map Stop.pv,N.av.map aG.pv,runs.map dH.pv,l.map bh.pv,N.paths.map Path.pv,N.aT.map aF.pv,N.bw,N.within,N.cap,PV.int .i64 l[k].a,PV.int .i64 l[k].ac,PV.int .i64 l[k].b,PV.int .i64 l[k].bc,PV.bool l[k].stay,())) k (fun j=>(l[j]?).elim false fun y=>l[k].stay&&y.stay&&(decide (y.a=l[k].a)||decide (y.b=l[k].b))) (no:=some (.int .i64 19)) (fin:=if(l[k].stay&&qN (l.take k) l[k].b l[k].a (k+1))=true then some (.int .i64 19)else if cX l[k]∈(l.map cX).take k then some (.int .i64 6)else some (.int .i64 0)) (fun j hj rec=>?_) (fun rec=>?_) (by have:=bk;omega) rfl).trans ?_
     ·have h1:decide ((j:Int)<(k:Int))=true:=by simp;omega
      have H7:j<l.length:=by omega
      rw[AS H7];unfold nO;dsimp only;rw[BY h1,aV,IS,AS H7];simp only[adN,U,DO,link2,F4,asInt,asBool,T1,ah (show j<9223372036854775807 by omega),fR,aY,aZ,Option.elim];rfl
     ·unfold nO;dsimp only;rw[IN (by simp),DP];have:=AK l[k].b l[k].a (by have:=hb.1.1.1;omega);simp only[asBool,asInt,T1,U,this,aY]
     ·rw[RQ l _ k (by omega)];have ZP:((l.take k).any fun y=>l[k].stay&&y.stay&&(decide (y.a=l[k].a)||decide (y.b=l[k].b)))=(l[k].stay&&((nx (l.take k) l[k].a).isSome||decide (l[k].b∈mU (l.take k)))):=by
       rw[RO,UU];cases l[k].stay with
       |false=>simp
       |true=>
        rw[agV];simp only[ahW,afk,aip,T2,No];constructor
        ·rintro⟨x,h1,h2,h3|h3⟩
         ·exact Or.inl ⟨x,h1,h2,h3⟩
         ·exact Or.inr ⟨x,h1,h2,h3⟩
        ·rintro(⟨x,h1,h2,h3⟩|⟨x,h1,h2,h3⟩)
         ·exact⟨x,h1,h2,Or.inl h3⟩
         ·exact⟨x,h1,h2,Or.inr h3⟩
      rw[ZP]
    rw[ae6];have hlen:(l.take k).length=k:=by simp;omega
    have hac:decide (l[k].ac=((bt runs l[k].a).length:Int)-1)=decide (l[k].ac+1=((bt runs l[k].a).length:Int)):=by rw[agV];simp only[No];omega
    rw[hac];unfold BF;rw[hlen];generalize (!decide (l[k].ac+1=((bt runs l[k].a).length:Int)))=X1;generalize (!decide (l[k].bc=0))=X2;generalize (nx (l.take k) l[k].a).isSome=X3;generalize decide (l[k].b∈mU (l.take k))=X4;generalize qN (l.take k) l[k].b l[k].a (k+1)=X5;by_cases bR:cX l[k]∈(l.map cX).take k
    ·simp only[bR,T1];cases l[k].stay<;>cases X1<;>cases X2<;>cases X3<;>cases X4<;>cases X5<;>rfl
    ·simp only[bR,Xq];cases l[k].stay<;>cases X1<;>cases X2<;>cases X3<;>cases X4<;>cases X5<;>rfl
   ·simp only[pw,agY,agX,T1,aj0,aiI,AT,Xq]
def nk(N:ai):Int×Int×Int:=
 if(gA N.stops).2=0 then
  if(gf N.av).2=0 then
   if(pn N.runs N.stops.length N.av.length).2=0 then
    if(me N.runs N.aL).2=0 then
     if(cR N.paths N.stops.length).2=0 then if(db N.aT N.bw N.within N.cap).2=0 then(0,0,0)else(5,db N.aT N.bw N.within N.cap)
     else(4,cR N.paths N.stops.length)
    else(3,me N.runs N.aL)
   else(2,pn N.runs N.stops.length N.av.length)
  else(1,gf N.av)
 else(0,gA N.stops)
def gv(x:Int×Int×Int):PV:=.bn [.int .i64 x.1,.int .i64 x.2.1,.int .i64 x.2.2]
theorem r3E(p i e:Int):PV.agg [cell (r3 p i e) 0,cell (r3 p i e) 1,cell (r3 p i e) 2]=r3 p i e:=rfl
theorem YB(p i e:Int):PV.agg [.int .i64 p,.int .i64 i,.int .i64 e]=r3 p i e:=rfl
theorem vY(p i e q j f:Int):dp [.rs 3 [r3 p i e,r3 q j f]]=some (if e=0 then(if f=0 then r3 0 0 0 else r3 q j f)else r3 p i e):=by
 simp only[dp,rU,aQ,T1,U];have h0:=bL (body:=gV) (fun k=>([r3 p i e,r3 q j f],(2:Int),(k:Int),0,0,0,())) 2 (fun k=>if k=0 then(if e=0 then none else some (some (r3 p i e)))else(if f=0 then none else some (some (r3 q j f)))) (fin:=some (r3 0 0 0)) (fun k hk rec=>?_) (fun rec=>?_) (by decide) (s0:=([r3 p i e,r3 q j f],(2:Int),0,0,0,0,())) rfl
 ·refine h0.trans ?_;have:List.range 2=[0,1]:=rfl;rw[this];by_cases he:e=0
  ·by_cases hf:f=0<;>simp[he,hf,fS]
  ·simp[he,fS]
 ·have h2:k=0∨k=1:=by omega
  rcases h2 with rfl|rfl
  ·unfold gV;dsimp only;rw[BY (by simp),aV];simp only[ahd,U,D7,asInt,T1,oZ,r3E,ah (show 0<9223372036854775807 by omega)];by_cases he:e=0
   ·simp only[he,ag6,afj,AT,Xq,T1];rfl
   ·simp only[he,agY,agX,Xq,T1];rfl
  ·unfold gV;dsimp only;rw[BY (by simp),aV];simp only[aim,ahd,U,D7,asInt,T1,oZ,r3E,ah (show 1<9223372036854775807 by omega)];by_cases he:f=0
   ·simp only[he,ag6,afj,AT,Xq,T1];rfl
   ·simp only[he,agY,agX,Xq,T1];rfl
 ·unfold gV;dsimp only;rw[IN (by simp)];rfl
theorem N6(p:Int)(x:Int×Int):prt p x=if x.2=0 then r3 0 0 0 else r3 p x.1 x.2:=rfl
theorem Av{l:List Stop}(h:(gA l).2=0):l.length≤64:=by
 unfold gA at h;by_cases wW:l.length>64
 ·rw[BY wW]at h;cases h
 ·omega
theorem Ef(a b:Int):(a==b)=decide (a=b):=fR a b
theorem DG(N:ai)(h:N.Ok)(hp:N.paths.length≤4096):fW [N.pv]=some (gv (nk N)):=by
 have hs:=RG N.stops h.stops;have hr:=NS N.av h.av;have hu:=Hy N h.runs;have hl:=EN N h.runs h.aL.1;have hf:=yz N.aT N.bw N.within N.cap h.aT;unfold dc at hf;simp only[fW,sa,jr,js,jt,ju,jw,jx,jy,jz,jB,jC,U,nY];simp only[hs,hr,hf,hu,hl,U,res,cO,agU,ahg,Nat.reduceAdd,T1,agL,agH,D8,P8,YB,vY];unfold nk;by_cases h1:(gA N.stops).2=0
 ·have hpa:=EM N (Av h1) hp;simp only[hpa,U,h1,T1];by_cases h2:(gf N.av).2=0
  ·simp only[h2,T1];rw[N6 2,N6 3,N6 4];by_cases h3:(pn N.runs N.stops.length N.av.length).2=0
   ·simp only[h3,T1];by_cases h4:(me N.runs N.aL).2=0
    ·simp only[h4,T1];by_cases h5:(cR N.paths N.stops.length).2=0
     ·simp only[h5,T1];by_cases h6:(db N.aT N.bw N.within N.cap).2=0
      ·simp only[h6,T1,P8,YB,s8,zK,D7,asInt,U,vY,Ef,ag6,agY,AT,gv]
      ·simp only[h6,T1,Xq,P8,YB,s8,zK,D7,asInt,U,vY,Ef,ag6,agY,AT,gv]
     ·simp only[h5,T1,Xq,P8,YB,s8,zK,D7,asInt,U,vY,Ef,ag6,agY,AT,gv]
    ·simp only[h4,T1,Xq,P8,YB,s8,zK,D7,asInt,U,vY,Ef,ag6,agY,AT,gv]
   ·simp only[h3,T1,Xq,P8,YB,s8,zK,D7,asInt,U,vY,Ef,ag6,agY,AT,gv]
  ·simp only[h2,T1,Xq,P8,YB,s8,zK,D7,asInt,U,vY,Ef,ag6,agY,AT,gv]
 ·simp only[h1,T1,Xq,P8,YB,s8,zK,D7,asInt,U,vY,Ef,ag6,agY,AT,gv]
theorem HB(N:ai)(h:N.Ok)(hn:N.stops.length≤64)(hp:N.paths.length≤4096):bx.run mH (0,N.stops.map Stop.pv,N.av.map aG.pv,N.runs.map dH.pv,N.aL.map bh.pv,N.paths.map Path.pv,N.aT.map aF.pv,N.bw,N.within,N.cap,())=some (gv (if(bN (cG N.runs N.aL) N.aL.length).2=0 then
  if(cR N.paths N.stops.length).2=0 then if(db N.aT N.bw N.within N.cap).2=0 then(0,0,0)else(5,db N.aT N.bw N.within N.cap)
  else(4,cR N.paths N.stops.length)
 else(3,bN (cG N.runs N.aL) N.aL.length))):=by
 have hm:=bf
 have S6:=h.aL.1
 have hpa:=RM N hn hp
 have hf:=RI N.aT N.bw N.within N.cap h.aT
 unfold dc at hf
 have hg:=iY (cG N.runs N.aL) N.aL.length (fun i e=>gv (3,i,e)) (some (gv (if(cR N.paths N.stops.length).2=0 then if(db N.aT N.bw N.within N.cap).2=0 then(0,0,0)else(5,db N.aT N.bw N.within N.cap)else(4,cR N.paths N.stops.length))))
 have hR:(if(bN (cG N.runs N.aL) N.aL.length).2=0 then(some (gv (if(cR N.paths N.stops.length).2=0 then if(db N.aT N.bw N.within N.cap).2=0 then(0,0,0)else(5,db N.aT N.bw N.within N.cap)else(4,cR N.paths N.stops.length))))else some (gv (3,(bN (cG N.runs N.aL) N.aL.length).1,(bN (cG N.runs N.aL) N.aL.length).2)))=some (gv (if(bN (cG N.runs N.aL) N.aL.length).2=0 then
   if(cR N.paths N.stops.length).2=0 then if(db N.aT N.bw N.within N.cap).2=0 then(0,0,0)else(5,db N.aT N.bw N.within N.cap)
   else(4,cR N.paths N.stops.length)
  else(3,bN (cG N.runs N.aL) N.aL.length))):=by
  by_cases hz:(bN (cG N.runs N.aL) N.aL.length).2=0
  ·rw[BY hz,BY hz]
  ·rw[IN hz,IN hz]
 rw[←hR,←hg]
 refine xy (fun k=>((k:Int),N.stops.map Stop.pv,N.av.map aG.pv,N.runs.map dH.pv,N.aL.map bh.pv,N.paths.map Path.pv,N.aT.map aF.pv,N.bw,N.within,N.cap,())) N.aL.length _ (fun k hk EJ rec=>?_) (fun _ rec=>?_) (by have:=bk;omega) rfl
 ·have abZ:∀j,j<k→cG N.runs N.aL j=0:=fun j hj=>by
   have:=EJ j hj;by_cases h0:cG N.runs N.aL j=0
   ·exact h0
   ·rw[IN h0]at this;cases this
  have Yd:=UW N h.runs S6 k hk abZ;have h1:decide ((k:Int)<((N.aL.map bh.pv).length:Int))=true:=by simp;omega
  unfold mH;dsimp only;rw[BY h1,nY,Yd];simp only[U,asInt,T1,oZ,ah (show k<9223372036854775807 by omega)];by_cases he:cG N.runs N.aL k=0
  ·simp only[he,ag6,afj,AT,Xq,T1];rfl
  ·simp only[he,agY,agX,Xq,T1];rfl
 ·unfold mH;dsimp only;rw[IN (by simp),nY,hpa];simp only[U,res,cO,agU,ahg,Nat.reduceAdd,T1,agL,agH,asInt,oZ,hf];by_cases h5:(cR N.paths N.stops.length).2=0
  ·simp only[h5,ag6,afj,AT,Xq,T1];by_cases h6:(db N.aT N.bw N.within N.cap).2=0
   ·simp only[h6,ag6,afj,AT,Xq,T1,gv]
   ·simp only[h6,agY,agX,AT,Xq,T1,gv]
  ·simp only[h5,agY,agX,AT,Xq,T1,gv]
theorem Rp(N:ai)(h:N.Ok)(hp:N.paths.length≤4096):kZ [N.pv]=some (gv (nk N)):=by
 have hm:=bf;have cQ:4096≤maxLen:=by decide
 have hs:=RH N.stops h.stops;have hr:=NT N.av h.av;simp only[kZ,vA,jr,js,jt,ju,jw,jx,jy,jz,jB,jC,U];simp only[hs,hr,U,res,cO,agU,ahg,Nat.reduceAdd,T1,agL,agH,asInt,oZ];unfold nk;by_cases h1:(gA N.stops).2=0
 ·have sC:=HB N h (Av h1) hp;simp only[h1,ag6,afj,AT,Xq,T1];by_cases h2:(gf N.av).2=0
  ·simp only[h2,ag6,afj,AT,Xq,T1];unfold pn;by_cases wW:N.runs.length>1024
   ·rw[BY (by simp;omega),BY wW];rfl
   ·rw[IN (by simp;omega),IN wW];generalize hE:kB N.runs N.stops.length N.av.length=E;generalize hF:(if(me N.runs N.aL).2=0 then
     if(cR N.paths N.stops.length).2=0 then if(db N.aT N.bw N.within N.cap).2=0 then((0:Int),(0:Int),(0:Int))else(5,db N.aT N.bw N.within N.cap)
     else(4,cR N.paths N.stops.length)
    else(3,me N.runs N.aL))=F
    have hg:=iY E N.runs.length (fun i e=>gv (2,i,e)) (some (gv F));have hR:(if(bN E N.runs.length).2=0 then some (gv F)else some (gv (2,(bN E N.runs.length).1,(bN E N.runs.length).2)))=some (gv (if(bN E N.runs.length).2=0 then F else(2,bN E N.runs.length))):=by
     by_cases hz:(bN E N.runs.length).2=0
     ·rw[BY hz,BY hz]
     ·rw[IN hz,IN hz]
    rw[←hR,←hg];refine bL (fun k=>((k:Int),N.stops.map Stop.pv,N.av.map aG.pv,N.runs.map dH.pv,N.aL.map bh.pv,N.paths.map Path.pv,N.aT.map aF.pv,N.bw,N.within,N.cap,())) N.runs.length _ (fun k hk rec=>?_) (fun rec=>?_) (by have:=bk;omega) rfl
    ·have KU:=Xa N h.runs k hk;rw[hE]at KU;have h1:decide ((k:Int)<((N.runs.map dH.pv).length:Int))=true:=by simp;omega
     unfold qO;dsimp only;rw[BY h1,nY,KU];simp only[U,asInt,T1,oZ,ah (show k<9223372036854775807 by omega)];by_cases he:E k=0
     ·simp only[he,ag6,afj,AT,Xq,T1];rfl
     ·simp only[he,agY,agX,Xq,T1];rfl
    ·unfold qO;dsimp only;rw[IN (by simp),←hF];unfold me;by_cases Vy:N.aL.length>1024
     ·rw[BY (by simp;omega),BY Vy];rfl
     ·rw[IN (by simp;omega),IN Vy,sC]
  ·simp only[h2,agY,agX,AT,Xq,T1,gv]
 ·simp only[h1,agY,agX,AT,Xq,T1,gv]
theorem DH{N:ai}(h:(nk N).2.2=0):∀k,k<N.runs.length→kB N.runs N.stops.length N.av.length k=0:=by
 unfold nk at h;by_cases h1:(gA N.stops).2=0
 ·rw[BY h1]at h;by_cases h2:(gf N.av).2=0
  ·rw[BY h2]at h;by_cases h3:(pn N.runs N.stops.length N.av.length).2=0
   ·unfold pn at h3;by_cases wW:N.runs.length>1024
    ·rw[BY wW]at h3;cases h3
    ·rw[IN wW]at h3;exact(nm _ _).1 h3
   ·rw[IN h3]at h;exact absurd h h3
  ·rw[IN h2]at h;exact absurd h h2
 ·rw[IN h1]at h;exact absurd h h1
theorem vS{N:ai}(h:(nk N).2.2=0):∀r∈N.runs,(iC r.calls N.stops.length 0 3155932800).2=0:=by
 intro r hr;obtain⟨k,hk,rfl⟩:=ahT hr;have:=DH h k hk;unfold kB at this;rw[AS hk]at this;simp only at this;by_cases hc:(iC N.runs[k].calls N.stops.length 0 3155932800).2=0
 ·exact hc
 ·rw[IN hc]at this;split at this
  ·cases this
  ·split at this
   ·cases this
   ·split at this
    ·cases this
    ·split at this
     ·cases this
     ·exact absurd this hc
theorem Bx{l:List cK}{n a b:Int}(h:(iC l n a b).2=0):2≤l.length∧l.length≤32:=by
 unfold iC at h;by_cases hc:(decide ((l.length:Int)<2)||decide ((l.length:Int)>32))=true
 ·rw[BY hc]at h;cases h
 ·simp only[afk,No,ajV]at hc;omega
theorem I8{l:List cK}{n a b:Int}(h:(iC l n a b).2=0):∀k,k<l.length→tV l n a b k=0:=by
 unfold iC at h;by_cases hc:(decide ((l.length:Int)<2)||decide ((l.length:Int)>32))=true
 ·rw[BY hc]at h;cases h
 ·rw[IN hc]at h;exact(nm _ _).1 h
end Go.Ab.Tt
