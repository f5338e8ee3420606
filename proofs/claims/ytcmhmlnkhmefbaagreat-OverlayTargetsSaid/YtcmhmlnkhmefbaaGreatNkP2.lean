import Derived.Test.YtcmhmlnkhmefbaaGreatNkP1
import Derived.Test.YtcmhmlnkhmefbaaGreatNwP2
namespace Go.Ab.Tt
set_option maxRecDepth 100000
set_option linter.unusedVariables false
set_option linter.unusedSimpArgs false
def bW(x:Path):Int×Int×Bool:=(x.a,x.b,x.free)
def xQ(x:Int×Int×Bool):PV:=.agg [.int .i64 x.1,.int .i64 x.2.1,.bool x.2.2]
theorem Gz(a b:Int×Int×Bool):cV (xQ a).cells (xQ b).cells=decide (a=b):=by obtain⟨a1,a2,a3⟩:=a;obtain⟨b1,b2,b3⟩:=b;rw[Bool.eq_iff_iff];simp[xQ,PV.cells,cV,peq]
def dt(l:List Path)(n:Int)(k:Nat):Int:=match l[k]? with
 |none=>0
 |some x=>if(decide (x.a<0)||decide (x.a≥n)||decide (x.b<0)||decide (x.b≥n)||decide (x.a=x.b))=true then 9 else if(decide (x.bP<1)||decide (x.bP>14400))=true then 2 else if bW x∈(l.map bW).take k then 6 else 0
theorem JR(l:List Path)(n:Int)(hl:l.length≤maxLen):ey [.rs 4 (l.map Path.pv),.int .i64 n]=some (res (bS (dt l n) l.length).1 (bS (dt l n) l.length).2):=by
 have hm:=bg;simp only[ey,oz,ab,asInt,if_true,U,List.length_map];rw[←mw];refine bn (fun k=>(n,l.map Path.pv,(l.length:Int),(k:Int),seen xQ ((l.map bW).take k),())) l.length _ (fun k hk rec=>?_) (fun rec=>?_) ?_ rfl
 ·have h1:(k:Int)<(l.length:Int):=by omega
  have pR:eN (.agg [.int .i64 l[k].a,.int .i64 l[k].b,.bool l[k].free]) (.bool true) (seen xQ ((l.map bW).take k))=_:=my Gz (bW l[k]) ((l.map bW).take k);have qL:dH (.agg [.int .i64 l[k].a,.int .i64 l[k].b,.bool l[k].free]) (.bool false) (seen xQ ((l.map bW).take k))=_:=kr Gz (bW l[k]) ((l.map bW).take k);simp only[kY,decide_eq_true_eq,h1,if_true,aK,List.getElem?_map,List.getElem?_eq_getElem hk,Option.map_some,U,Gw,Gx,L8,Gy,asInt,asBool,pR,qL,fa,ao (show k<9223372036854775807 by omega),oD bW l k hk];unfold dt;rw[List.getElem?_eq_getElem hk];simp only;by_cases bN:bW l[k]∈(l.map bW).take k
  ·simp only[bN,if_true];by_cases e1:l[k].a<0<;>by_cases e2:l[k].a≥n<;>by_cases e3:l[k].b<0<;>by_cases e4:l[k].b≥n<;>by_cases e5:l[k].a=l[k].b<;>by_cases e6:l[k].bP<1<;>by_cases e7:l[k].bP>14400<;>simp only[e1,e2,e3,e4,e5,e6,e7,decide_true,decide_false,Bool.or_true,Bool.true_or,Bool.or_false,if_true,if_false,Bool.false_eq_true]<;>rfl
  ·simp only[bN,if_false,Bool.false_eq_true];by_cases e1:l[k].a<0<;>by_cases e2:l[k].a≥n<;>by_cases e3:l[k].b<0<;>by_cases e4:l[k].b≥n<;>by_cases e5:l[k].a=l[k].b<;>by_cases e6:l[k].bP<1<;>by_cases e7:l[k].bP>14400<;>simp only[e1,e2,e3,e4,e5,e6,e7,decide_true,decide_false,Bool.or_true,Bool.true_or,Bool.or_false,if_true,if_false,Bool.false_eq_true]<;>rfl
 ·simp only[kY,decide_eq_true_eq,Int.lt_irrefl,if_false];rfl
 ·have:=aU;omega
def toFp(p:Path):Nw.Fp:=⟨p.a.toNat,p.b.toNat,p.bP.toNat,p.free⟩
def Sound(l:List Path)(n:Nat):Prop:=∀p∈l,0≤p.a∧p.a<n∧0≤p.b∧p.b<n∧1≤p.bP∧p.bP≤14400
variable{l:List Path}{n:Nat}
theorem GA(h:(bS (dt l n) l.length).2=0):Sound l n:=by
 intro p hp;obtain⟨k,hk,rfl⟩:=List.getElem_of_mem hp;have h0:=(lU _ _).1 h k hk;unfold dt at h0;rw[List.getElem?_eq_getElem hk]at h0;simp only at h0;by_cases c1:(decide (l[k].a<0)||decide (l[k].a≥n)||decide (l[k].b<0)||decide (l[k].b≥n)||decide (l[k].a=l[k].b))=true
 ·rw[if_pos c1]at h0;omega
 ·rw[if_neg c1]at h0;by_cases c2:(decide (l[k].bP<1)||decide (l[k].bP>14400))=true
  ·rw[if_pos c2]at h0;omega
  ·simp only[Bool.or_eq_true,decide_eq_true_eq]at c1 c2;omega
theorem toFp_pv{p:Path}(h1:0≤p.a)(h2:0≤p.b)(h3:1≤p.bP):(toFp p).pv=p.pv:=by simp only[toFp,Nw.Fp.pv,Path.pv];rw[Int.toNat_of_nonneg h1,Int.toNat_of_nonneg h2,Int.toNat_of_nonneg (by omega)]
theorem QR(h:Sound l n):(l.map toFp).map Nw.Fp.pv=l.map Path.pv:=by rw[List.map_map];apply List.map_congr_left;intro p hp;exact toFp_pv (h p hp).1 (h p hp).2.2.1 (h p hp).2.2.2.2.1
def Ma(e:List PV):Path:=match e with|[.int .i64 a,.int .i64 b,.int .i64 s,.bool f]=>⟨a,b,s,f⟩|_=>⟨0,0,0,false⟩
theorem BE:∀(L:List (List PV)),(∀e∈L,Nw.IsF e)→eB L=(L.map Ma).map Path.pv
 |[],_=>rfl
 |e::L,h=>by obtain⟨i,k,s,b,rfl⟩:=h e (by simp);have:=BE L fun x hx=>h x (by simp[hx]);unfold eB at this⊢;rw[List.map_cons,List.map_cons,List.map_cons,this];rfl
def gI(l:List Path)(n:Nat):List Path:=(Nw.Ck n (Nw.pc n (l.map toFp) false) (Nw.pc n (l.map toFp) true)).map Ma
theorem C9(hn:n≤64)(hl:l.length≤4096)(h:Sound l n):cZ [.rs 4 (l.map Path.pv),.int .i64 n]=some (.rs 4 ((gI l n).map Path.pv))∧fo [.rs 4 (l.map Path.pv),.int .i64 n]=some (.rs 4 ((gI l n).map Path.pv)):=by have:=Nw.JS (l.map toFp) n hn (by simpa using hl) (fun p hp=>by obtain⟨q,hq,rfl⟩:=List.mem_map.1 hp;have:=h q hq;simp only[toFp];omega);rw[QR h,BE _ (Nw.GB n _ _)]at this;exact this
theorem GC(l:List Path)(n:Nat)(hn:n≤64):(gI l n).length≤8192:=by
 have h1:(gI l n).length=(eB (Nw.Ck n (Nw.pc n (l.map toFp) false) (Nw.pc n (l.map toFp) true))).length:=by simp[gI,eB]
 rw[h1,Nw.xR];have h2:=Nw.wJ (it:=fun i k=>Nw.zA (Nw.pc n (l.map toFp) false i k) (Nw.pc n (l.map toFp) true i k) i k) (fun i k=>Nw.Em _ _ i k) n n;have h3:2*n*n≤2*64*64:=Nat.mul_le_mul (Nat.mul_le_mul_left 2 hn) hn;omega
theorem GD(x y:Path):cV [cell x.pv 0,cell x.pv 1,cell x.pv 2,cell x.pv 3] [cell y.pv 0,cell y.pv 1,cell y.pv 2,cell y.pv 3]=decide (x=y):=by rw[Bool.eq_iff_iff];obtain⟨a,b,c,d⟩:=x;obtain⟨a',b',c',d'⟩:=y;simp[Gw,Gx,L8,Gy,cV,peq]
theorem wK(x:Path):jj (Kd.int IntKind.i64::[].append (Kd.int IntKind.i64::[].append (Kd.int IntKind.i64::[].append (Kd.bool::[].append [])))) [cell x.pv 0,cell x.pv 1,cell x.pv 2,cell x.pv 3]=true:=rfl
def kZ(l:List Path)(n:Nat):Bool:=decide (gI l n=l)
theorem GF(hn:n≤64)(hl:l.length≤4096)(h:(bS (dt l n) l.length).2=0):dq [.rs 4 (l.map Path.pv),.int .i64 n]=some (.bool (kZ l n)):=by
 have hm:4096≤maxLen:=by decide
 have hs:=JR l n (by omega);have hf:=NW _ _ h;rw[h,hf]at hs;have hc:=(C9 hn hl (GA h)).1;have se:=GC l n hn;have sA:¬decide ((n:Int)>64)=true:=by simp;omega
 have h0:¬(0:Int)>(n:Int):=by omega
 simp only[dq,kU,ab,asInt,if_true,U];rw[if_neg sA,hs];simp only[res,bY,List.length_cons,List.length_nil,Nat.reduceAdd,if_true,U,List.getD_cons_zero,List.getD_cons_succ,asInt,if_neg h0,hc,ab,List.length_map];rw[if_neg (by decide)];unfold kZ;by_cases hlen:(gI l n).length=l.length
 ·rw[if_neg (by simp[lF,hlen])];have hr:=El (gI l n) l hlen (some (PV.bool false)) (some (PV.bool true));have:some (PV.bool (decide (gI l n=l)))=if gI l n=l then some (PV.bool true)else some (PV.bool false):=by by_cases hc:gI l n=l<;>simp[hc]
  rw[this,←hr];refine bn (fun k=>(l.map Path.pv,(gI l n).map Path.pv,((gI l n).length:Int),(k:Int),())) (gI l n).length _ (fun k hk rec=>?_) (fun rec=>?_) ?_ rfl
  ·have h1:decide ((k:Int)<((gI l n).length:Int))=true:=by simp;omega
   have mM:k<l.length:=by omega
   unfold iI;dsimp only;rw[if_pos h1,aK,List.getElem?_map,List.getElem?_eq_getElem hk,aK,List.getElem?_map,List.getElem?_eq_getElem mM];simp only[Option.map_some,U];rw[if_pos ⟨wK _,wK _⟩,GD,ao (by omega)];by_cases he:(gI l n)[k]=l[k]
   ·simp[he,eQ]
   ·simp[he,eQ]
  ·unfold iI;dsimp only;rw[if_neg (by simp)]
  ·have:=aU;omega
 ·rw[if_pos (by simp[lF];omega)];rw[decide_eq_false (fun hc=>hlen (by rw[hc]))]
def cU(l:List Path)(n:Nat):Int×Int:=if(bS (dt l n) l.length).2=0 then(if kZ l n=true then(0,0)else(0,18))else bS (dt l n) l.length
def qj(x:Int×Int×Bool):PV:=.agg [.int .i64 x.1,.int .i64 x.2.1,.int .i64 0,.bool x.2.2]
theorem ZQ(a b:Int×Int×Bool):cV (qj a).cells (qj b).cells=decide (a=b):=by obtain⟨a1,a2,a3⟩:=a;obtain⟨b1,b2,b3⟩:=b;rw[Bool.eq_iff_iff];simp[qj,PV.cells,cV,peq]
theorem za(N:aj)(l:List Path)(n:Nat)(hl:l.length≤4096)(hlen:(N.stops.map Stop.pv).length=n)(k:Nat)(hk:k<l.length)(rec:NX→Option PV):cQ (l.map Path.pv,(l.length:Int),(k:Int),N.stops.map Stop.pv,N.ai.map aF.pv,N.runs.map cn.pv,N.aq.map aN.pv,l.map Path.pv,N.aM.map aZ.pv,N.bd,N.within,N.cap,0,0,0,seen qj ((l.map bW).take k),()) rec=eQ (if dt l n k=0 then none else some (some (r3 4 k (dt l n k)))) (rec (l.map Path.pv,(l.length:Int),((k+1:Nat):Int),N.stops.map Stop.pv,N.ai.map aF.pv,N.runs.map cn.pv,N.aq.map aN.pv,l.map Path.pv,N.aM.map aZ.pv,N.bd,N.within,N.cap,0,0,0,seen qj ((l.map bW).take (k+1)),())):=by
 have h1:decide ((k:Int)<(l.length:Int))=true:=by simp;omega
 have pR:eN (.agg [.int .i64 l[k].a,.int .i64 l[k].b,.int .i64 0,.bool l[k].free]) (.bool true) (seen qj ((l.map bW).take k))=_:=my ZQ (bW l[k]) ((l.map bW).take k);have qL:dH (.agg [.int .i64 l[k].a,.int .i64 l[k].b,.int .i64 0,.bool l[k].free]) (.bool false) (seen qj ((l.map bW).take k))=_:=kr ZQ (bW l[k]) ((l.map bW).take k);unfold cQ;dsimp only;rw[if_pos h1,aK,List.getElem?_map,List.getElem?_eq_getElem hk,hlen];simp only[Option.map_some,U,Gw,Gx,L8,Gy,asInt,asBool,if_true,vG,bu,fa,pR,qL,BD,L9,xP,xg,BC,oD bW l k hk,ao (show k<9223372036854775807 by omega)];have hA:(!(decide (l[k].a≥0)&&decide (l[k].a<(n:Int)))|| !(decide (l[k].b≥0)&&decide (l[k].b<(n:Int)))||decide (l[k].a=l[k].b))=(decide (l[k].a<0)||decide (l[k].a≥(n:Int))||decide (l[k].b<0)||decide (l[k].b≥(n:Int))||decide (l[k].a=l[k].b)):=by rw[Bool.eq_iff_iff];simp only[Bool.or_eq_true,Bool.not_eq_true',Bool.and_eq_false_iff,decide_eq_true_eq,decide_eq_false_iff_not];omega
 rw[hA];unfold dt;rw[List.getElem?_eq_getElem hk];simp only;generalize (decide (l[k].a<0)||decide (l[k].a≥(n:Int))||decide (l[k].b<0)||decide (l[k].b≥(n:Int))||decide (l[k].a=l[k].b))=A;generalize (decide (l[k].bP<1)||decide (l[k].bP>14400))=B;by_cases bN:bW l[k]∈(l.map bW).take k
 ·simp only[bN,if_true];cases A<;>cases B<;>rfl
 ·simp only[bN,if_false];cases A<;>cases B<;>rfl
theorem Cl(N:aj)(hn:N.stops.length≤64)(hl:N.paths.length≤4096):bE [N.pv]=some (prt 4 (cU N.paths N.stops.length)):=by
 have hm:4096≤maxLen:=by decide
 simp only[bE,jS,qM,rI,rJ,rK,rL,rM,rN,rO,rP,rQ,U,List.length_map];generalize FI:N.paths=l at hl⊢;generalize M3:N.stops.length=n at hn⊢;have hlen:(N.stops.map Stop.pv).length=n:=by simpa using M3
 have hg:=gP (dt l n) l.length (fun i e=>r3 4 i e) (some (if kZ l n=true then r3 0 0 0 else r3 4 0 18));have hR:some (prt 4 (cU l n))=if(bS (dt l n) l.length).2=0 then some (if kZ l n=true then r3 0 0 0 else r3 4 0 18)else some (r3 4 (bS (dt l n) l.length).1 (bS (dt l n) l.length).2):=by
  unfold cU prt;by_cases h:(bS (dt l n) l.length).2=0
  ·rw[if_pos h,if_pos h];cases kZ l n<;>rfl
  ·rw[if_neg h,if_neg h,if_neg h]
 rw[hR,←hg];by_cases hz:(bS (dt l n) l.length).2=0
 ·refine bn (fun k=>(l.map Path.pv,(l.length:Int),(k:Int),N.stops.map Stop.pv,N.ai.map aF.pv,N.runs.map cn.pv,N.aq.map aN.pv,l.map Path.pv,N.aM.map aZ.pv,N.bd,N.within,N.cap,0,0,0,seen qj ((l.map bW).take k),())) l.length _ (fun k hk rec=>za N l n hl hlen k hk rec) (fun rec=>?_) ?_ rfl
  ·unfold cQ;dsimp only;rw[if_neg (by simp),hlen,GF hn hl hz];simp only[U,asBool,BD,L9,xP,xg,BC];cases kZ l n<;>rfl
  ·have:=aU;omega
 ·have sy:=bn (body:=cQ) (fun k=>(l.map Path.pv,(l.length:Int),(k:Int),N.stops.map Stop.pv,N.ai.map aF.pv,N.runs.map cn.pv,N.aq.map aN.pv,l.map Path.pv,N.aM.map aZ.pv,N.bd,N.within,N.cap,0,0,0,seen qj ((l.map bW).take k),())) l.length _ (fin:=cQ (l.map Path.pv,(l.length:Int),(l.length:Int),N.stops.map Stop.pv,N.ai.map aF.pv,N.runs.map cn.pv,N.aq.map aN.pv,l.map Path.pv,N.aM.map aZ.pv,N.bd,N.within,N.cap,0,0,0,seen qj ((l.map bW).take l.length),()) fun _=>none) (fun k hk rec=>za N l n hl hlen k hk rec) (fun rec=>?_) (by have:=aU;omega) (s0:=(l.map Path.pv,(l.length:Int),0,N.stops.map Stop.pv,N.ai.map aF.pv,N.runs.map cn.pv,N.aq.map aN.pv,l.map Path.pv,N.aM.map aZ.pv,N.bd,N.within,N.cap,0,0,0,[],())) rfl
  ·rw[sy,gP,gP,if_neg hz,if_neg hz]
  ·unfold cQ;dsimp only;rw[if_neg (by simp),if_neg (by simp)]
end Go.Ab.Tt
namespace Go.Ab.Tt
set_option maxRecDepth 100000
set_option linter.unusedVariables false
set_option linter.unusedSimpArgs false
theorem En(N:aj)(l:List Path)(hl:l.length≤4096)(i:Nat)(hi:i<l.length)(fb:Cm→Option PV):cF.run (k8 fb) ((i:Int),0,N.stops.map Stop.pv,N.ai.map aF.pv,N.runs.map cn.pv,N.aq.map aN.pv,l.map Path.pv,N.aM.map aZ.pv,N.bd,N.within,N.cap,.int .i64 l[i].a,.int .i64 l[i].b,.int .i64 l[i].bP,.bool l[i].free,())=if bW l[i]∈(l.map bW).take i then some (res i 6)else fb (IntKind.i64.wrap ((i:Int)+1),N.stops.map Stop.pv,N.ai.map aF.pv,N.runs.map cn.pv,N.aq.map aN.pv,l.map Path.pv,N.aM.map aZ.pv,N.bd,N.within,N.cap,()):=by
 have hm:4096≤maxLen:=by decide
 refine(oG (fun k=>((i:Int),(k:Int),N.stops.map Stop.pv,N.ai.map aF.pv,N.runs.map cn.pv,N.aq.map aN.pv,l.map Path.pv,N.aM.map aZ.pv,N.bd,N.within,N.cap,PV.int .i64 l[i].a,PV.int .i64 l[i].b,PV.int .i64 l[i].bP,PV.bool l[i].free,())) i (fun k=>decide ((l.map bW)[k]?=some (bW l[i]))) (no:=some (res i 6)) (fin:=fb (IntKind.i64.wrap ((i:Int)+1),N.stops.map Stop.pv,N.ai.map aF.pv,N.runs.map cn.pv,N.aq.map aN.pv,l.map Path.pv,N.aM.map aZ.pv,N.bd,N.within,N.cap,())) (fun k hk rec=>?_) (fun rec=>?_) ?_ rfl).trans ?_
 ·have h1:decide ((k:Int)<(i:Int))=true:=by simp;omega
  have mM:k<l.length:=by omega
  have hd:decide ((l.map bW)[k]?=some (bW l[i]))=(decide (l[k].a=l[i].a)&&decide (l[k].b=l[i].b)&&decide (l[k].free=l[i].free)):=by rw[Bool.eq_iff_iff];simp[List.getElem?_eq_getElem mM,bW,and_assoc]
  rw[hd];unfold k8;dsimp only;rw[if_pos h1,aK,List.getElem?_map,List.getElem?_eq_getElem mM];simp only[Option.map_some,U,Gw,Gx,Gy,asInt,asBool,if_true,ao (show k<9223372036854775807 by omega),fa,dP];rfl
 ·unfold k8;dsimp only;rw[if_neg (by simp)]
 ·have:=aU;omega
 ·rw[zQ _ _ (by simp;omega)];simp only[decide_eq_true_eq]
theorem NY(N:aj)(hn:N.stops.length≤64)(hl:N.paths.length≤4096):ju [N.pv]=some (res (cU N.paths N.stops.length).1 (cU N.paths N.stops.length).2):=by
 have hm:4096≤maxLen:=by decide
 simp only[ju,ti,qM,rI,rJ,rK,rL,rM,rN,rO,rP,rQ,U];generalize FI:N.paths=l at hl⊢;generalize M3:N.stops.length=n at hn⊢;have hlen:(N.stops.map Stop.pv).length=n:=by simpa using M3
 have hw:IntKind.i64.wrap ((n:Int)-1)=(n:Int)-1:=fv (by omega) (by omega);have QS:∀k,(hk:k<l.length)→∀rec,fp cF ((k:Int),N.stops.map Stop.pv,N.ai.map aF.pv,N.runs.map cn.pv,N.aq.map aN.pv,l.map Path.pv,N.aM.map aZ.pv,N.bd,N.within,N.cap,()) rec=eQ (if dt l n k=0 then none else some (some (res k (dt l n k)))) (rec (((k+1:Nat):Int),N.stops.map Stop.pv,N.ai.map aF.pv,N.runs.map cn.pv,N.aq.map aN.pv,l.map Path.pv,N.aM.map aZ.pv,N.bd,N.within,N.cap,())):=by
  intro k hk rec;have h1:decide ((k:Int)<((l.map Path.pv).length:Int))=true:=by simp;omega
  have px:=En N l hl k hk rec;unfold fp;dsimp only;rw[if_pos h1,aK,List.getElem?_map,List.getElem?_eq_getElem hk,hlen,hw];simp only[Option.map_some,U,Gw,Gx,L8,Gy,asInt,asBool,if_true,Bz,bu,fa,px,ao (show k<9223372036854775807 by omega)];have hA:(!(decide (l[k].a≥0)&&decide (l[k].a≤(n:Int)-1))|| !(decide (l[k].b≥0)&&decide (l[k].b≤(n:Int)-1))||decide (l[k].a=l[k].b))=(decide (l[k].a<0)||decide (l[k].a≥(n:Int))||decide (l[k].b<0)||decide (l[k].b≥(n:Int))||decide (l[k].a=l[k].b)):=by rw[Bool.eq_iff_iff];simp only[Bool.or_eq_true,Bool.not_eq_true',Bool.and_eq_false_iff,decide_eq_true_eq,decide_eq_false_iff_not];omega
  have hB:(!(decide (l[k].bP≥1)&&decide (l[k].bP≤14400)))=(decide (l[k].bP<1)||decide (l[k].bP>14400)):=by rw[Bool.eq_iff_iff];simp only[Bool.or_eq_true,Bool.not_eq_true',Bool.and_eq_false_iff,decide_eq_true_eq,decide_eq_false_iff_not];omega
  rw[hA,hB];unfold dt;rw[List.getElem?_eq_getElem hk];simp only;generalize (decide (l[k].a<0)||decide (l[k].a≥(n:Int))||decide (l[k].b<0)||decide (l[k].b≥(n:Int))||decide (l[k].a=l[k].b))=A;generalize (decide (l[k].bP<1)||decide (l[k].bP>14400))=B;by_cases bN:bW l[k]∈(l.map bW).take k
  ·simp only[bN,if_true];cases A<;>cases B<;>rfl
  ·simp only[bN,if_false];cases A<;>cases B<;>rfl
 have hg:=gP (dt l n) l.length (fun i e=>res i e) (some (if kZ l n=true then res 0 0 else res 0 18));have hR:some (res (cU l n).1 (cU l n).2)=if(bS (dt l n) l.length).2=0 then some (if kZ l n=true then res 0 0 else res 0 18)else some (res (bS (dt l n) l.length).1 (bS (dt l n) l.length).2):=by
  unfold cU;by_cases h:(bS (dt l n) l.length).2=0
  ·rw[if_pos h,if_pos h];cases kZ l n<;>rfl
  ·rw[if_neg h,if_neg h]
 rw[hR,←hg];by_cases hz:(bS (dt l n) l.length).2=0
 ·refine bn (fun k=>((k:Int),N.stops.map Stop.pv,N.ai.map aF.pv,N.runs.map cn.pv,N.aq.map aN.pv,l.map Path.pv,N.aM.map aZ.pv,N.bd,N.within,N.cap,())) l.length _ QS (fun rec=>?_) ?_ rfl
  ·have hc:=(C9 hn hl (GA hz)).2;have se:=GC l n hn;unfold fp;dsimp only;rw[if_neg (by simp),hlen,hc];simp only[U,ab,if_true,List.length_map];unfold kZ;by_cases QT:(gI l n).length=l.length
   ·rw[if_neg (by simp[lF,QT])];have hr:=El (gI l n) l QT (some (res 0 18)) (some (res 0 0));have:some (if decide (gI l n=l)=true then res 0 0 else res 0 18)=if gI l n=l then some (res 0 0)else some (res 0 18):=by by_cases hc:gI l n=l<;>simp[hc]
    rw[this,←hr];refine bn (fun k=>((gI l n).map Path.pv,(k:Int),N.stops.map Stop.pv,N.ai.map aF.pv,N.runs.map cn.pv,N.aq.map aN.pv,l.map Path.pv,N.aM.map aZ.pv,N.bd,N.within,N.cap,())) (gI l n).length _ (fun k hk rec=>?_) (fun rec=>?_) ?_ rfl
    ·have h1:decide ((k:Int)<(((gI l n).map Path.pv).length:Int))=true:=by simp;omega
     have mM:k<l.length:=by omega
     unfold oJ;dsimp only;rw[if_pos h1,aK,List.getElem?_map,List.getElem?_eq_getElem hk,aK,List.getElem?_map,List.getElem?_eq_getElem mM];simp only[Option.map_some,U];rw[if_pos ⟨wK _,wK _⟩,GD,ao (by omega)];by_cases he:(gI l n)[k]=l[k]
     ·simp[he,eQ]
     ·simp[he,eQ,res]
    ·unfold oJ;dsimp only;rw[if_neg (by simp)];rfl
    ·have:=aU;omega
   ·rw[if_pos (by simp[lF];omega)];rw[decide_eq_false (fun hc=>QT (by rw[hc]))];rfl
  ·have:=aU;omega
 ·have sy:=bn (body:=fp cF) (fun k=>((k:Int),N.stops.map Stop.pv,N.ai.map aF.pv,N.runs.map cn.pv,N.aq.map aN.pv,l.map Path.pv,N.aM.map aZ.pv,N.bd,N.within,N.cap,())) l.length _ (fin:=fp cF ((l.length:Int),N.stops.map Stop.pv,N.ai.map aF.pv,N.runs.map cn.pv,N.aq.map aN.pv,l.map Path.pv,N.aM.map aZ.pv,N.bd,N.within,N.cap,()) fun _=>none) QS (fun rec=>?_) (by have:=aU;omega) (s0:=(0,N.stops.map Stop.pv,N.ai.map aF.pv,N.runs.map cn.pv,N.aq.map aN.pv,l.map Path.pv,N.aM.map aZ.pv,N.bd,N.within,N.cap,())) rfl
  ·rw[sy,gP,gP,if_neg hz,if_neg hz]
  ·unfold fp;dsimp only;rw[if_neg (by simp),if_neg (by simp)]
end Go.Ab.Tt
namespace Go.Ab.Tt
set_option maxRecDepth 100000
set_option linter.unusedVariables false
set_option linter.unusedSimpArgs false
def bD(x:cn):Bytes×Int×Int:=(x.id,x.day,x.inst)
def GG(x:Bytes×Int×Int):PV:=.agg [.str x.1,.int .i64 x.2.1,.int .i64 x.2.2]
theorem QU(a b:Bytes×Int×Int):cV (GG a).cells (GG b).cells=decide (a=b):=by obtain⟨a1,a2,a3⟩:=a;obtain⟨b1,b2,b3⟩:=b;rw[Bool.eq_iff_iff];simp[GG,PV.cells,cV,peq]
def iJ(l:List cn)(stops ai:Int)(k:Nat):Int:=match l[k]? with
 |none=>0
 |some x=>if eM x.id=false then 12 else if(decide (x.dv< -1)||decide (x.inst<0))=true then 2 else if(decide (x.day<0)||decide (x.day>36524))=true then 11 else if(decide (x.bh<0)||decide (x.bh≥ai))=true then 9 else if(bw x.calls stops 0 3155932800).2=0 then(if bD x∈(l.map bD).take k then 6 else 0)else(bw x.calls stops 0 3155932800).2
def fW(l:List cn)(stops ai:Int):Int×Int:=if l.length>1024 then(0,5)else bS (iJ l stops ai) l.length
theorem JT(N:aj)(l:List cn)(hl:l.length≤maxLen∧∀y∈l,y.Ok)(k:Nat)(hk:k<l.length)(rec:NX→Option PV):fJ (l.map cn.pv,(l.length:Int),(k:Int),N.stops.map Stop.pv,N.ai.map aF.pv,l.map cn.pv,N.aq.map aN.pv,N.paths.map Path.pv,N.aM.map aZ.pv,N.bd,N.within,N.cap,0,0,0,seen GG ((l.map bD).take k),()) rec=eQ (if iJ l N.stops.length N.ai.length k=0 then none else some (some (r3 2 k (iJ l N.stops.length N.ai.length k)))) (rec (l.map cn.pv,(l.length:Int),((k+1:Nat):Int),N.stops.map Stop.pv,N.ai.map aF.pv,l.map cn.pv,N.aq.map aN.pv,N.paths.map Path.pv,N.aM.map aZ.pv,N.bd,N.within,N.cap,0,0,0,seen GG ((l.map bD).take (k+1)),())):=by
 have hm:=bg;have h1:decide ((k:Int)<(l.length:Int))=true:=by simp;omega
 have hO:=hl.2 _ (List.getElem_mem hk);have hid:=tz l[k].id hO.id;have hT:=nC l[k].calls N.stops.length 0 3155932800 hO.calls.1;simp only[res]at hT;have pR:eN (.agg [.str l[k].id,.int .i64 l[k].day,.int .i64 l[k].inst]) (.bool true) (seen GG ((l.map bD).take k))=_:=my QU (bD l[k]) ((l.map bD).take k);have qL:dH (.agg [.str l[k].id,.int .i64 l[k].day,.int .i64 l[k].inst]) (.bool false) (seen GG ((l.map bD).take k))=_:=kr QU (bD l[k]) ((l.map bD).take k);unfold fJ;dsimp only;rw[if_pos h1,aK,List.getElem?_map,List.getElem?_eq_getElem hk];simp only[Option.map_some,U,Wy,NT,NU,NV,Wz,Gu,bx,asInt,asBool,ab,if_true,List.length_map,hid,hT,bY,List.length_cons,List.length_nil,Nat.reduceAdd,List.getD_cons_zero,List.getD_cons_succ,bu,lF,pR,qL,BD,L9,xP,xg,BC,oD bD l k hk,ao (show k<9223372036854775807 by omega)];unfold iJ;rw[List.getElem?_eq_getElem hk];simp only;generalize (decide (l[k].dv< -1)||decide (l[k].inst<0))=A;generalize (decide (l[k].day<0)||decide (l[k].day>36524))=B;generalize (decide (l[k].bh<0)||decide (l[k].bh≥(N.ai.length:Int)))=C;generalize (bw l[k].calls N.stops.length 0 3155932800).2=e;cases eM l[k].id with
 |false=>rfl
 |true=>
  cases A with
  |true=>rfl
  |false=>
   cases B with
   |true=>rfl
   |false=>
    cases C with
    |true=>rfl
    |false=>
     simp only[Bool.not_true,Bool.false_eq_true,Bool.true_eq_false,if_false];by_cases he:e=0
     ·subst he;by_cases bN:bD l[k]∈(l.map bD).take k
      ·simp only[bN,if_true,decide_true,Bool.not_true,Bool.false_eq_true,if_false];rfl
      ·simp only[bN,if_true,decide_true,decide_false,Bool.not_true,Bool.false_eq_true,if_false];rfl
     ·simp only[he,if_false,if_true,decide_false,Bool.not_false];rfl
theorem Eo(N:aj)(hl:N.runs.length≤maxLen∧∀y∈N.runs,y.Ok):dp [N.pv]=some (prt 2 (fW N.runs N.stops.length N.ai.length)):=by
 have hm:=bg;simp only[dp,kR,qM,rI,rJ,rK,rL,rM,rN,rO,rP,rQ,U,List.length_map];generalize FI:N.runs=l at hl⊢;unfold fW;by_cases sA:l.length>1024
 ·rw[if_pos (by simp;omega),if_pos sA];rfl
 ·rw[if_neg (by simp;omega),if_neg sA];have hR:some (prt 2 (bS (iJ l N.stops.length N.ai.length) l.length))=if(bS (iJ l N.stops.length N.ai.length) l.length).2=0 then some (r3 0 0 0)else some (r3 2 (bS (iJ l N.stops.length N.ai.length) l.length).1 (bS (iJ l N.stops.length N.ai.length) l.length).2):=by
   unfold prt;by_cases h:(bS (iJ l N.stops.length N.ai.length) l.length).2=0
   ·rw[if_pos h,if_pos h]
   ·rw[if_neg h,if_neg h]
  rw[hR,←gP (iJ l N.stops.length N.ai.length) l.length (fun i e=>r3 2 i e)];refine bn (fun k=>(l.map cn.pv,(l.length:Int),(k:Int),N.stops.map Stop.pv,N.ai.map aF.pv,l.map cn.pv,N.aq.map aN.pv,N.paths.map Path.pv,N.aM.map aZ.pv,N.bd,N.within,N.cap,0,0,0,seen GG ((l.map bD).take k),())) l.length _ (fun k hk rec=>JT N l hl k hk rec) (fun rec=>?_) ?_ rfl
  ·unfold fJ;dsimp only;rw[if_neg (by simp)];rfl
  ·have:=aU;omega
theorem JU(N:aj)(l:List cn)(hl:l.length≤maxLen)(i:Nat)(hi:i<l.length):cF.run nh ((i:Int),0,N.stops.map Stop.pv,N.ai.map aF.pv,l.map cn.pv,N.aq.map aN.pv,N.paths.map Path.pv,N.aM.map aZ.pv,N.bd,N.within,N.cap,.int .i64 l[i].dv,.int .i64 l[i].day,.int .i64 l[i].inst,.str l[i].id,.int .i64 l[i].bh,.bool l[i].free,.bool l[i].rH,.rs 5 (l[i].calls.map av.pv),())=if bD l[i]∈(l.map bD).take i then some (.int .i64 6)else some (.int .i64 0):=by
 have hm:=bg;refine(oG (fun k=>((i:Int),(k:Int),N.stops.map Stop.pv,N.ai.map aF.pv,l.map cn.pv,N.aq.map aN.pv,N.paths.map Path.pv,N.aM.map aZ.pv,N.bd,N.within,N.cap,PV.int .i64 l[i].dv,PV.int .i64 l[i].day,PV.int .i64 l[i].inst,PV.str l[i].id,PV.int .i64 l[i].bh,PV.bool l[i].free,PV.bool l[i].rH,PV.rs 5 (l[i].calls.map av.pv),())) i (fun k=>decide ((l.map bD)[k]?=some (bD l[i]))) (no:=some (.int .i64 6)) (fin:=some (.int .i64 0)) (fun k hk rec=>?_) (fun rec=>?_) ?_ rfl).trans ?_
 ·have h1:decide ((k:Int)<(i:Int))=true:=by simp;omega
  have mM:k<l.length:=by omega
  have hd:decide ((l.map bD)[k]?=some (bD l[i]))=(decide (l[k].id=l[i].id)&&decide (l[k].day=l[i].day)&&decide (l[k].inst=l[i].inst)):=by rw[Bool.eq_iff_iff];simp[List.getElem?_eq_getElem mM,bD,and_assoc]
  rw[hd];unfold nh;dsimp only;rw[if_pos h1,aK,List.getElem?_map,List.getElem?_eq_getElem mM];simp only[Option.map_some,U,NT,NU,NV,asInt,bx,if_true,ao (show k<9223372036854775807 by omega),fa,dP]
 ·unfold nh;dsimp only;rw[if_neg (by simp)]
 ·have:=aU;omega
 ·rw[zQ _ _ (by simp;omega)];simp only[decide_eq_true_eq]
theorem Tx(N:aj)(hl:N.runs.length≤maxLen∧∀y∈N.runs,y.Ok)(k:Nat)(hk:k<N.runs.length):mz [N.pv,.int .i64 k]=some (.int .i64 (iJ N.runs N.stops.length N.ai.length k)):=by
 have hm:=bg;have hO:=hl.2 _ (List.getElem_mem hk);simp only[mz,xN,qM,rI,rJ,rK,rL,rM,rN,rO,rP,rQ,U];generalize FI:N.runs=l at hl hk hO⊢;have hO':l[k].Ok:=by subst FI;exact hO
 have hid:=rG l[k].id hO'.id;have hT:=NS l[k].calls N.stops.length 0 3155932800 hO'.calls.1;have px:=JU N l hl.1 k hk;simp only[asInt,if_true,U,aK,List.getElem?_map,List.getElem?_eq_getElem hk,Option.map_some,Wy,NT,NU,NV,Wz,ZO,ZP,Gu,bx,asBool,ab,List.length_map,hid,hT,Bz,bu,lF,px];unfold iJ;rw[List.getElem?_eq_getElem hk];simp only;have hB:(!(decide (l[k].day≥0)&&decide (l[k].day≤36524)))=(decide (l[k].day<0)||decide (l[k].day>36524)):=by rw[Bool.eq_iff_iff];simp only[Bool.or_eq_true,Bool.not_eq_true',Bool.and_eq_false_iff,decide_eq_true_eq,decide_eq_false_iff_not];omega
 rw[hB];generalize (decide (l[k].dv< -1)||decide (l[k].inst<0))=A;generalize (decide (l[k].day<0)||decide (l[k].day>36524))=B;generalize (decide (l[k].bh<0)||decide (l[k].bh≥(N.ai.length:Int)))=C;generalize (bw l[k].calls N.stops.length 0 3155932800).2=e;cases eM l[k].id with
 |false=>rfl
 |true=>
  cases A with
  |true=>rfl
  |false=>
   cases B with
   |true=>rfl
   |false=>
    cases C with
    |true=>rfl
    |false=>
     simp only[Bool.not_true,Bool.false_eq_true,Bool.true_eq_false,if_false];by_cases he:e=0
     ·subst he;by_cases bN:bD l[k]∈(l.map bD).take k
      ·simp only[bN,if_true,decide_true,Bool.not_true,Bool.false_eq_true,if_false]
      ·simp only[bN,if_true,decide_true,Bool.not_true,Bool.false_eq_true,if_false]
     ·simp only[he,if_false,if_true,decide_false,Bool.not_false]
end Go.Ab.Tt
namespace Go.Ab.Tt
set_option maxRecDepth 100000
set_option linter.unusedVariables false
set_option linter.unusedSimpArgs false
def nx(p:List aN)(v:Int):Option Int:=p.foldl (fun o x=>if(x.stay&&decide (x.a=v))=true then some x.b else o) none
theorem WA(v:Int):nx [] v=none:=rfl
theorem pA(p:List aN)(x:aN)(v:Int):nx (p++[x]) v=if(x.stay&&decide (x.a=v))=true then some x.b else nx p v:=by unfold nx;rw[List.foldl_append];rfl
def it(f:Int→Option Int):Nat→Int→Option Int
 |0,v=>some v
 |m+1,v=>(f v).bind (it f m)
theorem Mb(f:Int→Option Int)(m:Nat)(v:Int):it f (m+1) v=(it f m v).bind f:=by
 induction m generalizing v with
 |zero=>show(f v).bind (it f 0)=f v;cases h:f v<;>rfl
 |succ m ih=>
  show(f v).bind (it f (m+1))=((f v).bind (it f m)).bind f;cases h:f v with
  |none=>rfl
  |some w=>exact ih w
def k9(p:List aN)(a b:Int)(n:Nat):Bool:=(List.range n).any fun t=>decide (it (nx p) (t+1) a=some b)
def vH(f:Int→Option Int):Prop:=∃r:Int→Nat,∀v w,f v=some w→r w<r v
theorem JV:vH (nx []):=⟨fun _=>0,fun v w h=>by cases h⟩
variable{p:List aN}
theorem JW{v w:Int}(h:nx p v=some w):∃x∈p,x.stay=true∧x.a=v∧x.b=w:=by
 have key:∀n,n≤p.length→nx (p.take n) v=some w→∃x∈p,x.stay=true∧x.a=v∧x.b=w:=by
  intro n;induction n with
  |zero=>intro _ h;cases h
  |succ n ih=>
   intro hn h;have M3:n<p.length:=by omega
   rw[List.take_succ_eq_append_getElem M3,pA]at h;by_cases hc:(p[n].stay&&decide (p[n].a=v))=true
   ·rw[if_pos hc]at h;simp only[Bool.and_eq_true,decide_eq_true_eq]at hc;exact⟨p[n],List.getElem_mem M3,hc.1,hc.2,by simpa using h⟩
   ·rw[if_neg hc]at h;exact ih (by omega) h
 exact key p.length (Nat.le_refl _) (by rw[List.take_length];exact h)
theorem JX{f:Int→Option Int}(hf:vH f)(S:List Int)(hS:∀v w,f v=some w→v∈S):∀m v,it f m v≠none→m≤S.length:=by
 obtain⟨r,hr⟩:=hf;induction hn:S.length generalizing S f r with
 |zero=>
  intro m v h;cases m with
  |zero=>omega
  |succ m=>
   exfalso;cases WB:f v with
   |none=>exact h (by show(f v).bind _=none;rw[WB];rfl)
   |some w=>have:=hS v w WB;rw[List.length_eq_zero_iff.1 hn]at this;cases this
 |succ n ih=>
  intro m v h;cases m with
  |zero=>omega
  |succ m=>
   cases WB:f v with
   |none=>exact absurd (by show(f v).bind _=none;rw[WB];rfl) h
   |some w=>
    have hvS:=hS v w WB;let g:Int→Option Int:=fun x=>if x=v then none else f x;have hg:∀x y,g x=some y→r y<r x:=fun x y Ty=>by
     by_cases hx:x=v
     ·simp[g,hx]at Ty
     ·simp only[g,hx,if_false]at Ty;exact hr x y Ty
    have hgS:∀x y,g x=some y→x∈S.erase v:=fun x y Ty=>by
     by_cases hx:x=v
     ·simp[g,hx]at Ty
     ·simp only[g,hx,if_false]at Ty;exact(List.mem_erase_of_ne hx).2 (hS x y Ty)
    have hlen:(S.erase v).length=n:=by rw[List.length_erase_of_mem hvS];omega
    have P9:∀k x,r x<r v→it g k x=it f k x:=by
     intro k;induction k with
     |zero=>intros;rfl
     |succ k VE=>
      intro x hx;have hxv:x≠v:=fun h=>by subst h;omega
      show(g x).bind (it g k)=(f x).bind (it f k);have:g x=f x:=by simp[g,hxv]
      rw[this];cases hfx:f x with
      |none=>rfl
      |some y=>exact VE y (by have:=hr x y hfx;omega)
    have hw:it f m w≠none:=by intro hc;apply h;show(f v).bind (it f m)=none;rw[WB];exact hc
    have:=ih (S.erase v) hgS r hg hlen m w (by rw[P9 m w (hr v w WB)];exact hw);omega
theorem Ep(hp:vH (nx p)){m:Nat}(hm:p.length<m)(v:Int):it (nx p) m v=none:=by
 cases h:it (nx p) m v with
 |none=>rfl
 |some w=>have:=JX hp (p.map aN.a) (fun x y Ty=>by obtain⟨l,h1,h2,h3,h4⟩:=JW Ty;exact List.mem_map.2 ⟨l,h1,h3⟩) m v (by rw[h];exact fun h=>nomatch h);rw[List.length_map]at this;omega
theorem GH(hp:vH (nx p))(x:aN)(h:x.stay=false∨(x.a≠x.b∧nx p x.a=none∧k9 p x.b x.a (p.length+1)=false)):vH (nx (p++[x])):=by
 cases hs:x.stay with
 |false=>obtain⟨r,hr⟩:=hp;refine⟨r,fun v w Mc=>hr v w ?_⟩;rw[pA,hs,Bool.false_and,if_neg (by simp)]at Mc;exact Mc
 |true=>
  rw[hs]at h;rcases h with h|⟨qo,hna,QV⟩
  ·cases h
  have B9:=hp;obtain⟨r,hr⟩:=hp;have xD:∀t,it (nx p) (t+1) x.b≠some x.a:=by
   intro t ht;by_cases bp:t<p.length+1
   ·unfold k9 at QV;rw[List.any_eq_false]at QV;exact QV t (by simpa using bp) (by simpa using ht)
   ·rw[Ep B9 (by omega)]at ht;cases ht
  let R:Int→Prop:=fun v=>∃t,it (nx p) t v=some x.a;have hRb:¬R x.b:=fun⟨t,ht⟩=>by
   cases t with
   |zero=>exact qo (by simpa[it]using ht.symm)
   |succ t=>exact xD t ht
  refine⟨fun v=>open Classical in if R v then r v+r x.b+1 else r v,fun v w Mc=>?_⟩;rw[pA,hs,Bool.true_and]at Mc;by_cases hv:x.a=v
  ·rw[if_pos (by simpa using hv)]at Mc;simp only[Option.some.injEq]at Mc;subst Mc;have XV:R v:=⟨0,by show some v=some x.a;rw[hv]⟩;show(open Classical in if R x.b then r x.b+r x.b+1 else r x.b)<(open Classical in if R v then r v+r x.b+1 else r v);rw[if_neg hRb,if_pos XV];omega
  ·rw[if_neg (by simpa using hv)]at Mc;have bp:=hr v w Mc;show(open Classical in if R w then r w+r x.b+1 else r w)<(open Classical in if R v then r v+r x.b+1 else r v);by_cases hw:R w
   ·have XV:R v:=by obtain⟨t,ht⟩:=hw;exact⟨t+1,by show(nx p v).bind (it (nx p) t)=some x.a;rw[Mc];exact ht⟩
    rw[if_pos hw,if_pos XV];omega
   ·rw[if_neg hw];by_cases XV:R v
    ·rw[if_pos XV];omega
    ·rw[if_neg XV];exact bp
end Go.Ab.Tt
namespace Go.Ab.Tt
set_option maxRecDepth 100000
set_option linter.unusedVariables false
set_option linter.unusedSimpArgs false
def pB(a:Int):PV:=.int .i64 a
def ck(x:aN):Int×Int×Int×Int:=(x.a,x.ac,x.b,x.bc)
def GI(x:Int×Int×Int×Int):PV:=.agg [.int .i64 x.1,.int .i64 x.2.1,.int .i64 x.2.2.1,.int .i64 x.2.2.2]
theorem QW(a b:Int×Int×Int×Int):cV (GI a).cells (GI b).cells=decide (a=b):=by obtain⟨a1,a2,a3,a4⟩:=a;obtain⟨b1,b2,b3,b4⟩:=b;rw[Bool.eq_iff_iff];simp[GI,PV.cells,cV,peq]
def vc(p:List aN):List (Int×PV):=p.foldl (fun m x=>if x.stay=true then vI x.a (.int .i64 x.b) m else m) []
theorem vJ(p:List aN)(x:aN):vc (p++[x])=if x.stay=true then vI x.a (.int .i64 x.b) (vc p)else vc p:=by unfold vc;rw[List.foldl_append];rfl
def JY(a:Int)(m:List (Int×PV)):Bool:=m.any fun x=>decide (a=x.1)
theorem Md(a:Int):∀m,so (pB a) (si pB m)=JY a m
 |[]=>rfl
 |(b,u)::r=>by have:=Md a r;simp only[si]at this;simp only[si,List.map_cons,so,JY,List.any_cons];rw[this];have:cV (pB a).cells (pB b).cells=decide (a=b):=wL a b;rw[this];rfl
theorem GJ(a b:Int)(v:PV):∀m,JY a (vI b v m)=(decide (a=b)||JY a m)
 |[]=>by simp[JY,vI]
 |(c,u)::r=>by
  have:=GJ a b v r;simp only[JY]at this⊢;by_cases h:b=c
  ·subst h;simp[vI]
  ·simp only[vI,h,if_false,List.any_cons,this];cases decide (a=c)<;>simp
theorem tA{A:Type}{P:List A→Prop}(h0:P [])(h1:∀p x,P p→P (p++[x]))(l:List A):P l:=by
 have key:∀n,n≤l.length→P (l.take n):=by
  intro n;induction n with
  |zero=>intro _;rw[List.take_zero];exact h0
  |succ n ih=>intro hn;rw[List.take_succ_eq_append_getElem (show n<l.length by omega)];exact h1 _ _ (ih (by omega))
 have:=key l.length (Nat.le_refl _);rw[List.take_length]at this;exact this
theorem NZ(p:List aN)(v:Int):tB v (.int .i64 0) (vc p)=.int .i64 ((nx p v).getD 0):=by
 induction p using tA with
 |h0=>rfl
 |h1 p x ih=>
  rw[vJ,pA];cases hs:x.stay with
  |false=>rw[if_neg (by simp),Bool.false_and,if_neg (by simp)];exact ih
  |true=>
   rw[if_pos rfl,xS,Bool.true_and];by_cases h:x.a=v
   ·rw[if_pos h.symm,if_pos (by simpa using h)];rfl
   ·rw[if_neg (fun hc=>h hc.symm),if_neg (by simpa using h)];exact ih
theorem QX(p:List aN)(v:Int):JY v (vc p)=(nx p v).isSome:=by
 induction p using tA with
 |h0=>rfl
 |h1 p x ih=>
  rw[vJ,pA];cases hs:x.stay with
  |false=>rw[if_neg (by simp),Bool.false_and,if_neg (by simp)];exact ih
  |true=>
   rw[if_pos rfl,GJ,Bool.true_and];by_cases h:x.a=v
   ·rw[if_pos (by simpa using h)];simp[h]
   ·rw[if_neg (by simpa using h),ih];have:decide (v=x.a)=false:=by simpa using fun hc=>h hc.symm
    rw[this,Bool.false_or]
def mA(p:List aN):List (PV×PV):=si pB (vc p)
theorem vK(p:List aN)(v:Int):dH (.int .i64 v) (.int .i64 0) (mA p)=.int .i64 ((nx p v).getD 0):=by have:=BF (key:=pB) wL v (.int .i64 0) (vc p);rw[NZ]at this;exact this
theorem xT(p:List aN)(v:Int):so (.int .i64 v) (mA p)=(nx p v).isSome:=by have:=Md v (vc p);rw[QX]at this;exact this
theorem JZ(p:List aN)(x:aN):mA (p++[x])=if x.stay=true then eN (.int .i64 x.a) (.int .i64 x.b) (mA p)else mA p:=by
 have:=Er (key:=pB) wL x.a (.int .i64 x.b) (vc p);unfold mA;rw[vJ];by_cases h:x.stay=true
 ·rw[if_pos h,if_pos h];exact this.symm
 ·rw[if_neg h,if_neg h]
def jw(p:List aN):List Int:=(p.filter aN.stay).map aN.b
theorem J0(p:List aN)(x:aN):jw (p++[x])=if x.stay=true then jw p++[x.b]else jw p:=by unfold jw;by_cases h:x.stay=true<;>simp[List.filter_append,List.filter_cons,h]
theorem N0(p:List aN)(v:Int):(nx p v).isSome=p.any fun y=>y.stay&&decide (y.a=v):=by
 induction p using tA with
 |h0=>rfl
 |h1 p x ih=>
  rw[pA,List.any_append,←ih];by_cases h:(x.stay&&decide (x.a=v))=true
  ·rw[if_pos h];simp only[List.any_cons,List.any_nil,h];simp
  ·rw[if_neg h];simp only[List.any_cons,List.any_nil,h];simp
theorem QY(p:List aN)(v:Int):decide (v∈jw p)=p.any fun y=>y.stay&&decide (y.b=v):=by
 rw[Bool.eq_iff_iff,decide_eq_true_eq];simp only[jw,decide_eq_true_eq,List.mem_map,List.mem_filter,List.any_eq_true,Bool.and_eq_true];constructor
 ·rintro⟨x,⟨h1,h2⟩,h3⟩;exact⟨x,h1,h2,h3⟩
 ·rintro⟨x,h1,h2,h3⟩;exact⟨x,⟨h1,h2⟩,h3⟩
def WC(f:Int→Option Int)(a b:Int)(t:Nat):Option (Option PV):=(it f (t+1) a).elim (some (some (.bool false))) fun v=>if v=b then some (some (.bool true))else none
theorem J1(f:Int→Option Int)(b:Int)(n:Nat):∀a,it f (n+1) a=none→eQ ((List.range n).findSome? (WC f a b)) (some (.bool false))=some (.bool ((List.range (n+1)).any fun t=>decide (it f (t+1) a=some b))):=by
 induction n with
 |zero=>intro a h;simp[eQ,h]
 |succ n ih=>
  intro a h;rw[List.range_succ_eq_map (n:=n+1),List.range_succ_eq_map (n:=n),List.findSome?_cons,List.any_cons];have h0:it f (0+1) a=f a:=by show(f a).bind (it f 0)=f a;cases hf:f a<;>rfl
  unfold WC;rw[h0];cases hf:f a with
  |none=>
   have hz:∀t,it f (t+1) a=none:=fun t=>by show(f a).bind _=none;rw[hf];rfl
   simp only[Option.elim,eQ,List.any_map,Function.comp_def,hz];simp
  |some v=>
   have hs:∀t,it f (t+1+1) a=it f (t+1) v:=fun t=>by show(f a).bind _=_;rw[hf];rfl
   by_cases hv:v=b
   ·subst hv;simp only[Option.elim,if_true,eQ,decide_true,Bool.true_or]
   ·have hd:decide (some v=some b)=false:=by simpa using hv
    simp only[Option.elim,if_neg hv,hd,Bool.false_or];have:=ih v (by rw[←hs];exact h);rw[List.findSome?_map,List.any_map];simp only[Function.comp_def,Nat.succ_eq_add_one,hs];rw[←List.range_succ_eq_map];exact this
theorem J2(p:List aN)(hp:vH (nx p))(hl:p.length≤maxLen)(a b:Int):eT [.rm 3 ((mA p).map fun x=>x.fst) ((mA p).map fun x=>x.snd),.int .i64 a,.int .i64 b]=some (.bool (k9 p a b (p.length+1))):=by
 have hz:((mA p).map fun x=>x.fst).zip ((mA p).map fun x=>x.snd)=mA p:=by
  generalize mA p=m;induction m with
  |nil=>rfl
  |cons x m ih=>simp only[List.map_cons,List.zip_cons_cons,ih]
 simp only[eT,pU,dM,if_true,asInt,U,hz,vK,xT];unfold k9;rw[←J1 (nx p) b p.length a (Ep hp (by omega) a)];refine bn (fun t=>(PV.rm 3 ((mA p).map fun x=>x.fst) ((mA p).map fun x=>x.snd),b,(it (nx p) (t+1) a).getD 0,(it (nx p) (t+1) a).isSome,())) p.length _ (fun t ht rec=>?_) (fun rec=>?_) (by have:=aU;omega) ?_
 ·unfold iV WC;dsimp only;rw[Mb (nx p) (t+1) a];cases hv:it (nx p) (t+1) a with
  |none=>rfl
  |some v=>
   simp only[Option.isSome_some,Option.getD_some,if_true,fa,decide_eq_true_eq,Option.elim];by_cases Tz:v=b
   ·rw[if_pos Tz,if_pos Tz];rfl
   ·rw[if_neg Tz,if_neg Tz];simp only[dM,if_true,hz,vK,xT,asInt,U,eQ,Option.bind_some]
 ·unfold iV;dsimp only;rw[Ep hp (by omega)];rfl
 ·show(_,b,(it (nx p) 1 a).getD 0,(it (nx p) 1 a).isSome,())=_;have:it (nx p) 1 a=nx p a:=by show(nx p a).bind _=_;cases nx p a<;>rfl
  rw[this]
def ax(runs:List cn)(a:Int):List av:=((runs[a.toNat]?).map cn.calls).getD []
def eX(cs:List av)(c:Int):Int:=((cs[c.toNat]?).map av.stop).getD 0
def tC(x:aN)(R:Int):Bool:= !(decide (x.a≥0)&&decide (x.a<R))|| !(decide (x.b≥0)&&decide (x.b<R))||decide (x.a=x.b)
def tD(x:aN)(A B:Int):Bool:= !(decide (x.ac≥0)&&decide (x.ac<A))|| !(decide (x.bc≥0)&&decide (x.bc<B))
def oK(p:List aN)(x:aN)(A:Int):Bool:=x.stay&&(!decide (x.ac+1=A)|| !decide (x.bc=0)||(nx p x.a).isSome||decide (x.b∈jw p)||k9 p x.b x.a (p.length+1))
def cB(runs:List cn)(l:List aN)(k:Nat):Int:=match l[k]? with
 |none=>0
 |some x=>if tC x runs.length=true then 9 else if tD x (ax runs x.a).length (ax runs x.b).length=true then 9 else if eX (ax runs x.a) x.ac≠eX (ax runs x.b) x.bc then 13 else if oK (l.take k) x (ax runs x.a).length=true then 19 else if ck x∈(l.map ck).take k then 6 else 0
def gJ(runs:List cn)(l:List aN):Int×Int:=if l.length>1024 then(0,5)else bS (cB runs l) l.length
theorem BG(runs:List cn)(l:List aN)(k:Nat)(hk:k≤l.length)(h:∀j,j<k→cB runs l j=0):vH (nx (l.take k))∧∀x∈l.take k,0≤x.a:=by
 induction k with
 |zero=>rw[List.take_zero];exact⟨JV,fun x hx=>by cases hx⟩
 |succ k ih=>
  have mM:k<l.length:=by omega
  obtain⟨h1,h2⟩:=ih (by omega) fun j hj=>h j (by omega);have hz:=h k (by omega);unfold cB at hz;rw[List.getElem?_eq_getElem mM]at hz;simp only at hz;have hr:tC l[k] runs.length=false:=by
   cases hr:tC l[k] runs.length with
   |false=>rfl
   |true=>rw[hr,if_pos rfl]at hz;cases hz
  have hs:oK (l.take k) l[k] (ax runs l[k].a).length=false:=by
   cases hs:oK (l.take k) l[k] (ax runs l[k].a).length with
   |false=>rfl
   |true=>
    rw[hs]at hz;split at hz
    ·cases hz
    ·split at hz
     ·cases hz
     ·split at hz
      ·cases hz
      ·rw[if_pos rfl]at hz;cases hz
  unfold tC at hr;simp only[Bool.or_eq_false_iff,Bool.not_eq_false',Bool.and_eq_true,decide_eq_true_eq,decide_eq_false_iff_not]at hr;rw[List.take_succ_eq_append_getElem mM];refine⟨GH h1 l[k] ?_,fun x hx=>?_⟩
  ·unfold oK at hs;cases sy:l[k].stay with
   |false=>exact Or.inl rfl
   |true=>
    rw[sy,Bool.true_and]at hs;simp only[Bool.or_eq_false_iff]at hs;refine Or.inr ⟨hr.2,?_,hs.2⟩;have:=hs.1.1.2;cases hn:nx (l.take k) l[k].a with
    |none=>rfl
    |some w=>rw[hn]at this;cases this
  ·rcases List.mem_append.1 hx with hx|hx
   ·exact h2 x hx
   ·rw[List.mem_singleton]at hx;subst hx;exact hr.1.1.1
theorem wM(runs:List cn)(a:Int)(h:0≤a∧a<(runs.length:Int)):∃r∈runs,bk (runs.map cn.pv) a=some r.pv∧ax runs a=r.calls:=by
 obtain⟨n,rfl⟩:=Int.eq_ofNat_of_zero_le h.1;have hn:n<runs.length:=by omega
 refine⟨runs[n],List.getElem_mem hn,?_,?_⟩
 ·rw[aK,List.getElem?_map,List.getElem?_eq_getElem hn];rfl
 ·unfold ax;rw[Int.toNat_natCast,List.getElem?_eq_getElem hn];rfl
theorem ux(cs:List av)(c:Int)(h:0≤c∧c<(cs.length:Int)):∃r,bk (cs.map av.pv) c=some r∧cell r 0=.int .i64 (eX cs c):=by
 obtain⟨n,rfl⟩:=Int.eq_ofNat_of_zero_le h.1;have hn:n<cs.length:=by omega
 refine⟨cs[n].pv,?_,?_⟩
 ·rw[aK,List.getElem?_map,List.getElem?_eq_getElem hn];rfl
 ·unfold eX;rw[Int.toNat_natCast,List.getElem?_eq_getElem hn];rfl
end Go.Ab.Tt
namespace Go.Ab.Tt
set_option maxRecDepth 100000
set_option linter.unusedVariables false
set_option linter.unusedSimpArgs false
theorem tE{runs:List cn}(h:∀y∈runs,y.Ok)(a:Int):(ax runs a).length≤maxLen:=by
 unfold ax;cases hr:runs[a.toNat]? with
 |none=>simp
 |some r=>exact(h r (List.mem_of_getElem? hr)).calls.1
theorem GK(N:aj)(runs:List cn)(hr:∀y∈runs,y.Ok)(l:List aN)(hl:l.length≤maxLen)(k:Nat)(hk:k<l.length)(zx:∀j,j<k→cB runs l j=0)(rec:TY0→Option PV):fx (l.map aN.pv,(l.length:Int),(k:Int),N.stops.map Stop.pv,N.ai.map aF.pv,runs.map cn.pv,l.map aN.pv,N.paths.map Path.pv,N.aM.map aZ.pv,N.bd,N.within,N.cap,0,0,0,mA (l.take k),seen pB (jw (l.take k)),seen GI ((l.map ck).take k),()) rec=eQ (if cB runs l k=0 then none else some (some (r3 3 k (cB runs l k)))) (rec (l.map aN.pv,(l.length:Int),((k+1:Nat):Int),N.stops.map Stop.pv,N.ai.map aF.pv,runs.map cn.pv,l.map aN.pv,N.paths.map Path.pv,N.aM.map aZ.pv,N.bd,N.within,N.cap,0,0,0,mA (l.take (k+1)),seen pB (jw (l.take (k+1))),seen GI ((l.map ck).take (k+1)),())):=by
 have hm:=bg;have h1:decide ((k:Int)<(l.length:Int))=true:=by simp;omega
 obtain⟨ZR,_⟩:=BG runs l k (by omega) zx;have hlen:(l.take k).length=k:=by simp;omega
 have xU:=J2 (l.take k) ZR (by omega) l[k].b l[k].a;have pR:eN (.agg [.int .i64 l[k].a,.int .i64 l[k].ac,.int .i64 l[k].b,.int .i64 l[k].bc]) (.bool true) (seen GI ((l.map ck).take k))=_:=my QW (ck l[k]) ((l.map ck).take k);have qL:dH (.agg [.int .i64 l[k].a,.int .i64 l[k].ac,.int .i64 l[k].b,.int .i64 l[k].bc]) (.bool false) (seen GI ((l.map ck).take k))=_:=kr QW (ck l[k]) ((l.map ck).take k);have ZS:eN (.int .i64 l[k].b) (.bool true) (seen pB (jw (l.take k)))=_:=my (key:=pB) wL l[k].b (jw (l.take k));have WD:dH (.int .i64 l[k].b) (.bool false) (seen pB (jw (l.take k)))=_:=kr (key:=pB) wL l[k].b (jw (l.take k));have hsn:l.take (k+1)=l.take k++[l[k]]:=List.take_succ_eq_append_getElem hk;unfold fx;dsimp only;rw[if_pos h1,aK,List.getElem?_map,List.getElem?_eq_getElem hk,hsn,JZ,J0,oD ck l k hk];simp only[Option.map_some,U,C8,L6,link2,L7,Gv,asInt,asBool,if_true,List.length_map,vG,bu,fa];unfold cB;rw[List.getElem?_eq_getElem hk];simp only;have hR:(!(decide (l[k].a≥0)&&decide (l[k].a<(runs.length:Int)))|| !(decide (l[k].b≥0)&&decide (l[k].b<(runs.length:Int)))||decide (l[k].a=l[k].b))=tC l[k] runs.length:=rfl;rw[hR];cases hb:tC l[k] runs.length with
 |true=>simp only[if_true,BD,U,L9,xP,xg,BC];rfl
 |false=>
  unfold tC at hb;simp only[Bool.or_eq_false_iff,Bool.not_eq_false',Bool.and_eq_true,decide_eq_true_eq,decide_eq_false_iff_not]at hb;obtain⟨ra,hra,hia,VO⟩:=wM runs l[k].a ⟨hb.1.1.1,hb.1.1.2⟩;obtain⟨rb,HS,Up,N1⟩:=wM runs l[k].b ⟨hb.1.2.1,hb.1.2.2⟩;have hA:=tE hr l[k].a;rw[hia,Up];simp only[U,Gu,ab,if_true,List.length_map,←VO,←N1,vG,asBool,bu];have hC:(!(decide (l[k].ac≥0)&&decide (l[k].ac<((ax runs l[k].a).length:Int)))|| !(decide (l[k].bc≥0)&&decide (l[k].bc<((ax runs l[k].b).length:Int))))=tD l[k] (ax runs l[k].a).length (ax runs l[k].b).length:=rfl;rw[hC];cases Bt:tD l[k] (ax runs l[k].a).length (ax runs l[k].b).length with
  |true=>simp only[if_true,BD,U,L9,xP,xg,BC];rfl
  |false=>
   unfold tD at Bt;simp only[Bool.or_eq_false_iff,Bool.not_eq_false',Bool.and_eq_true,decide_eq_true_eq]at Bt;obtain⟨ka,VK,hsa⟩:=ux (ax runs l[k].a) l[k].ac Bt.1;obtain⟨kb,Y7,VP⟩:=ux (ax runs l[k].b) l[k].bc Bt.2;have hw:IntKind.i64.wrap (l[k].ac+1)=l[k].ac+1:=fv (by omega) (by omega);simp only[Bool.false_eq_true,if_false,VK,Y7,U,hsa,VP,vK,xT,qL,WD,pR,ZS,asInt,asBool,if_true,xU,hw,hlen,bu,dP,lF,BD,L9,xP,xg,BC,ao (show k<9223372036854775807 by omega)];have hS:(l[k].stay&&(!decide (l[k].ac+1=((ax runs l[k].a).length:Int))|| !decide (l[k].bc=0)||(nx (l.take k) l[k].a).isSome||decide (l[k].b∈jw (l.take k))||k9 (l.take k) l[k].b l[k].a (k+1)))=oK (l.take k) l[k] (ax runs l[k].a).length:=by unfold oK;rw[hlen]
   rw[hS];generalize oK (l.take k) l[k] (ax runs l[k].a).length=S;by_cases sy:eX (ax runs l[k].a) l[k].ac=eX (ax runs l[k].b) l[k].bc
   ·simp only[sy,decide_true,Bool.not_true,Bool.false_eq_true,if_false,ne_eq,not_true];cases S with
    |true=>rfl
    |false=>
     by_cases bN:ck l[k]∈(l.map ck).take k
     ·simp only[bN,decide_true,if_true,Bool.false_eq_true,if_false];rfl
     ·simp only[bN,decide_false,if_true,Bool.false_eq_true,if_false];cases l[k].stay<;>rfl
   ·simp only[sy,decide_false,Bool.not_false,if_true,ne_eq,not_false_eq_true];rfl
theorem Cn(N:aj)(hr:N.runs.length≤maxLen∧∀y∈N.runs,y.Ok)(hl:N.aq.length≤maxLen):cv [N.pv]=some (prt 3 (gJ N.runs N.aq)):=by
 have hm:=bg;simp only[cv,jY,qM,rI,rJ,rK,rL,rM,rN,rO,rP,rQ,U,List.length_map];generalize FI:N.aq=l at hl⊢;generalize qn:N.runs=runs at hr⊢;unfold gJ;by_cases sA:l.length>1024
 ·rw[if_pos (by simp;omega),if_pos sA];rfl
 ·rw[if_neg (by simp;omega),if_neg sA];have hR:some (prt 3 (bS (cB runs l) l.length))=if(bS (cB runs l) l.length).2=0 then some (r3 0 0 0)else some (r3 3 (bS (cB runs l) l.length).1 (bS (cB runs l) l.length).2):=by
   unfold prt;by_cases h:(bS (cB runs l) l.length).2=0
   ·rw[if_pos h,if_pos h]
   ·rw[if_neg h,if_neg h]
  rw[hR,←gP (cB runs l) l.length (fun i e=>r3 3 i e)];refine vb (fun k=>(l.map aN.pv,(l.length:Int),(k:Int),N.stops.map Stop.pv,N.ai.map aF.pv,runs.map cn.pv,l.map aN.pv,N.paths.map Path.pv,N.aM.map aZ.pv,N.bd,N.within,N.cap,0,0,0,mA (l.take k),seen pB (jw (l.take k)),seen GI ((l.map ck).take k),())) l.length _ (fun k hk zx rec=>GK N runs hr.2 l hl k hk (fun j hj=>?_) rec) (fun _ rec=>?_) (by have:=aU;omega) rfl
  ·have:=zx j hj;by_cases h0:cB runs l j=0
   ·exact h0
   ·rw[if_neg h0]at this;cases this
  ·unfold fx;dsimp only;rw[if_neg (by simp)];rfl
theorem N2(N:aj)(i:Nat)(hi:i<N.aq.length)(hl:N.aq.length≤maxLen)(hp:∀x∈N.aq.take i,0≤x.a)(a b:Int)(hb:0≤b):jx [N.pv,.int .i64 i,.int .i64 a,.int .i64 b]=some (.bool (k9 (N.aq.take i) a b (i+1))):=by
 have hm:=bg;simp only[jx,th,qM,rI,rJ,rK,rL,rM,rN,rO,rP,rQ,U];simp only[asInt,if_true,U];generalize FI:N.aq=l at hl hi hp⊢;have adM:nx (l.take i) (-1)=none:=by
  cases hn:nx (l.take i) (-1)with
  |none=>rfl
  |some w=>obtain⟨x,hx,_,hxa,_⟩:=JW hn;have:=hp x hx;omega
 have sN:∀t,(nx (l.take i) ((it (nx (l.take i)) t a).getD (-1))).getD (-1)=(it (nx (l.take i)) (t+1) a).getD (-1):=by
  intro t;rw[Mb];cases it (nx (l.take i)) t a with
  |none=>simp only[Option.getD_none,Option.bind_none,adM]
  |some v=>rfl
 have px:∀(c:Int)(t:Nat)fb,cF.run (la fb) ((i:Int),c,b,(t:Int),-1,0,N.stops.map Stop.pv,N.ai.map aF.pv,N.runs.map cn.pv,l.map aN.pv,N.paths.map Path.pv,N.aM.map aZ.pv,N.bd,N.within,N.cap,())=if(nx (l.take i) c).getD (-1)=b then some (.bool true)else fb ((i:Int),(nx (l.take i) c).getD (-1),b,IntKind.i64.wrap ((t:Int)+1),N.stops.map Stop.pv,N.ai.map aF.pv,N.runs.map cn.pv,l.map aN.pv,N.paths.map Path.pv,N.aM.map aZ.pv,N.bd,N.within,N.cap,()):=by
  intro c t fb;refine bJ (fun k=>((i:Int),c,b,(t:Int),(nx (l.take k) c).getD (-1),(k:Int),N.stops.map Stop.pv,N.ai.map aF.pv,N.runs.map cn.pv,l.map aN.pv,N.paths.map Path.pv,N.aM.map aZ.pv,N.bd,N.within,N.cap,())) i (fun k hk rec=>?_) (fun rec=>?_) (by have:=aU;omega) (by rw[List.take_zero,WA];rfl)
  ·have h1:decide ((k:Int)<(i:Int))=true:=by simp;omega
   have mM:k<l.length:=by omega
   unfold la;dsimp only;rw[if_pos h1,aK,List.getElem?_map,List.getElem?_eq_getElem mM,List.take_succ_eq_append_getElem mM,pA];simp only[Option.map_some,U,C8,link2,Gv,asInt,asBool,if_true,dP,fa,ao (show k<9223372036854775807 by omega)];by_cases hc:(l[k].stay&&decide (l[k].a=c))=true
   ·rw[if_pos hc,if_pos hc];rfl
   ·rw[if_neg hc,if_neg hc]
  ·unfold la;dsimp only;rw[if_neg (by simp)];simp only[fa,decide_eq_true_eq]
 unfold k9;have lM:cF.run (lb cF) ((i:Int),a,b,0,N.stops.map Stop.pv,N.ai.map aF.pv,N.runs.map cn.pv,l.map aN.pv,N.paths.map Path.pv,N.aM.map aZ.pv,N.bd,N.within,N.cap,())=if((List.range (i+1)).any fun t=>decide (it (nx (l.take i)) (t+1) a=some b))=true then some (PV.bool true)else some (PV.bool false):=by
  refine oG (fun t:Nat=>((i:Int),(it (nx (l.take i)) t a).getD (-1),b,(t:Int),N.stops.map Stop.pv,N.ai.map aF.pv,N.runs.map cn.pv,l.map aN.pv,N.paths.map Path.pv,N.aM.map aZ.pv,N.bd,N.within,N.cap,())) (i+1) (fun t=>decide (it (nx (l.take i)) (t+1) a=some b)) (no:=some (PV.bool true)) (fin:=some (PV.bool false)) (fun t ht rec=>?_) (fun rec=>?_) (by have:=aU;omega) rfl
  ·have h1:decide ((t:Int)≤(i:Int))=true:=by simp;omega
   unfold lb;dsimp only;rw[if_pos h1,px,sN,ao (by omega)];cases hv:it (nx (l.take i)) (t+1) a with
   |none=>rw[if_neg (by simp only[Option.getD_none];omega),if_neg (by simp)]
   |some v=>
    by_cases Tz:v=b
    ·rw[if_pos (by simpa using Tz),if_pos (by simpa using Tz)]
    ·rw[if_neg (by simpa using Tz),if_neg (by simpa using Tz)]
  ·unfold lb;dsimp only;rw[if_neg (by simp;omega)]
 rw[lM];cases(List.range (i+1)).any fun t=>decide (it (nx (l.take i)) (t+1) a=some b)<;>rfl
theorem N3(l:List aN)(P:aN→Bool)(k:Nat)(hk:k≤l.length):((List.range k).any fun j=>(l[j]?).elim false P)=(l.take k).any P:=by
 induction k with
 |zero=>rfl
 |succ k ih=>
  have mM:k<l.length:=by omega
  rw[List.range_succ,List.any_append,ih (by omega),List.take_succ_eq_append_getElem mM,List.any_append];simp only[List.any_cons,List.any_nil,List.getElem?_eq_getElem mM,Option.elim]
theorem QZ(N:aj)(hr:N.runs.length≤maxLen∧∀y∈N.runs,y.Ok)(hl:N.aq.length≤maxLen)(k:Nat)(hk:k<N.aq.length)(zx:∀j,j<k→cB N.runs N.aq j=0):lf [N.pv,.int .i64 k]=some (.int .i64 (cB N.runs N.aq k)):=by
 have hm:=bg;obtain⟨_,ei⟩:=BG N.runs N.aq k (by omega) zx;have xU:=fun a b hb=>N2 N k hk hl ei a b hb;have hE:=xO N;simp only[lf,vC,qM,rI,rJ,rK,rL,rM,rN,rO,rP,rQ,U];rw[←xO N]at xU;generalize FI:N.aq=l at hl hk ei xU⊢;generalize qn:N.runs=runs at hr xU⊢;have hw0:IntKind.i64.wrap ((runs.length:Int)-1)=(runs.length:Int)-1:=fv (by omega) (by omega);simp only[asInt,if_true,U,aK,List.getElem?_map,List.getElem?_eq_getElem hk,Option.map_some,C8,L6,link2,L7,Gv,asBool,List.length_map,hw0,Bz,bu,fa];unfold cB;rw[List.getElem?_eq_getElem hk];simp only;have hR:(!(decide (l[k].a≥0)&&decide (l[k].a≤(runs.length:Int)-1))|| !(decide (l[k].b≥0)&&decide (l[k].b≤(runs.length:Int)-1))||decide (l[k].a=l[k].b))=tC l[k] runs.length:=by unfold tC;rw[Bool.eq_iff_iff];simp only[Bool.or_eq_true,Bool.not_eq_true',Bool.and_eq_false_iff,decide_eq_true_eq,decide_eq_false_iff_not];omega
 rw[hR];cases hb:tC l[k] runs.length with
 |true=>simp only[if_true]
 |false=>
  unfold tC at hb;simp only[Bool.or_eq_false_iff,Bool.not_eq_false',Bool.and_eq_true,decide_eq_true_eq,decide_eq_false_iff_not]at hb;obtain⟨ra,hra,hia,VO⟩:=wM runs l[k].a ⟨hb.1.1.1,hb.1.1.2⟩;obtain⟨rb,HS,Up,N1⟩:=wM runs l[k].b ⟨hb.1.2.1,hb.1.2.2⟩;have hA:=tE hr.2 l[k].a;have hB:=tE hr.2 l[k].b;rw[hia,Up];simp only[U,Gu,ab,if_true,List.length_map,←VO,←N1];have hwA:IntKind.i64.wrap (((ax runs l[k].a).length:Int)-1)=((ax runs l[k].a).length:Int)-1:=fv (by omega) (by omega);have hwB:IntKind.i64.wrap (((ax runs l[k].b).length:Int)-1)=((ax runs l[k].b).length:Int)-1:=fv (by omega) (by omega);simp only[hwA,hwB,Bz,asBool,U,bu];have hC:(!(decide (l[k].ac≥0)&&decide (l[k].ac≤((ax runs l[k].a).length:Int)-1))|| !(decide (l[k].bc≥0)&&decide (l[k].bc≤((ax runs l[k].b).length:Int)-1)))=tD l[k] (ax runs l[k].a).length (ax runs l[k].b).length:=by unfold tD;rw[Bool.eq_iff_iff];simp only[Bool.or_eq_true,Bool.not_eq_true',Bool.and_eq_false_iff,decide_eq_true_eq,decide_eq_false_iff_not];omega
  rw[hC];cases Bt:tD l[k] (ax runs l[k].a).length (ax runs l[k].b).length with
  |true=>simp only[if_true,Bool.false_eq_true,if_false]
  |false=>
   unfold tD at Bt;simp only[Bool.or_eq_false_iff,Bool.not_eq_false',Bool.and_eq_true,decide_eq_true_eq]at Bt;obtain⟨ka,VK,hsa⟩:=ux (ax runs l[k].a) l[k].ac Bt.1;obtain⟨kb,Y7,VP⟩:=ux (ax runs l[k].b) l[k].bc Bt.2;simp only[Bool.false_eq_true,if_false,VK,Y7,U,hsa,VP,asInt,asBool,if_true,bu,dP,lF];by_cases sy:eX (ax runs l[k].a) l[k].ac=eX (ax runs l[k].b) l[k].bc
   ·simp only[sy,decide_true,Bool.not_true,Bool.false_eq_true,if_false,ne_eq,not_true];have ZT:cF.run mc ((k:Int),0,N.stops.map Stop.pv,N.ai.map aF.pv,runs.map cn.pv,l.map aN.pv,N.paths.map Path.pv,N.aM.map aZ.pv,N.bd,N.within,N.cap,.int .i64 l[k].a,.int .i64 l[k].ac,.int .i64 l[k].b,.int .i64 l[k].bc,.bool l[k].stay,())=if ck l[k]∈(l.map ck).take k then some (.int .i64 6)else some (.int .i64 0):=by
     refine(oG (fun j=>((k:Int),(j:Int),N.stops.map Stop.pv,N.ai.map aF.pv,runs.map cn.pv,l.map aN.pv,N.paths.map Path.pv,N.aM.map aZ.pv,N.bd,N.within,N.cap,PV.int .i64 l[k].a,PV.int .i64 l[k].ac,PV.int .i64 l[k].b,PV.int .i64 l[k].bc,PV.bool l[k].stay,())) k (fun j=>decide ((l.map ck)[j]?=some (ck l[k]))) (no:=some (.int .i64 6)) (fin:=some (.int .i64 0)) (fun j hj rec=>?_) (fun rec=>?_) (by have:=aU;omega) rfl).trans ?_
     ·have h1:decide ((j:Int)<(k:Int))=true:=by simp;omega
      have Fj:j<l.length:=by omega
      have hd:decide ((l.map ck)[j]?=some (ck l[k]))=(decide (l[j].a=l[k].a)&&decide (l[j].ac=l[k].ac)&&decide (l[j].b=l[k].b)&&decide (l[j].bc=l[k].bc)):=by rw[Bool.eq_iff_iff];simp[List.getElem?_eq_getElem Fj,ck,and_assoc]
      rw[hd];unfold mc;dsimp only;rw[if_pos h1,aK,List.getElem?_map,List.getElem?_eq_getElem Fj];simp only[Option.map_some,U,C8,L6,link2,L7,asInt,if_true,ao (show j<9223372036854775807 by omega),fa,dP]
     ·unfold mc;dsimp only;rw[if_neg (by simp)]
     ·rw[zQ _ _ (by simp;omega)];simp only[decide_eq_true_eq]
    have adN:cF.run (me cF) ((k:Int),0,N.stops.map Stop.pv,N.ai.map aF.pv,runs.map cn.pv,l.map aN.pv,N.paths.map Path.pv,N.aM.map aZ.pv,N.bd,N.within,N.cap,.int .i64 l[k].a,.int .i64 l[k].ac,.int .i64 l[k].b,.int .i64 l[k].bc,.bool l[k].stay,())=if(l[k].stay&&((nx (l.take k) l[k].a).isSome||decide (l[k].b∈jw (l.take k))))=true then some (.int .i64 19)else if(l[k].stay&&k9 (l.take k) l[k].b l[k].a (k+1))=true then some (.int .i64 19)else if ck l[k]∈(l.map ck).take k then some (.int .i64 6)else some (.int .i64 0):=by
     refine(oG (fun j=>((k:Int),(j:Int),N.stops.map Stop.pv,N.ai.map aF.pv,runs.map cn.pv,l.map aN.pv,N.paths.map Path.pv,N.aM.map aZ.pv,N.bd,N.within,N.cap,PV.int .i64 l[k].a,PV.int .i64 l[k].ac,PV.int .i64 l[k].b,PV.int .i64 l[k].bc,PV.bool l[k].stay,())) k (fun j=>(l[j]?).elim false fun y=>l[k].stay&&y.stay&&(decide (y.a=l[k].a)||decide (y.b=l[k].b))) (no:=some (.int .i64 19)) (fin:=if(l[k].stay&&k9 (l.take k) l[k].b l[k].a (k+1))=true then some (.int .i64 19)else if ck l[k]∈(l.map ck).take k then some (.int .i64 6)else some (.int .i64 0)) (fun j hj rec=>?_) (fun rec=>?_) (by have:=aU;omega) rfl).trans ?_
     ·have h1:decide ((j:Int)<(k:Int))=true:=by simp;omega
      have Fj:j<l.length:=by omega
      rw[List.getElem?_eq_getElem Fj];unfold me;dsimp only;rw[if_pos h1,aK,List.getElem?_map,List.getElem?_eq_getElem Fj];simp only[Option.map_some,U,C8,link2,Gv,asInt,asBool,if_true,ao (show j<9223372036854775807 by omega),fa,dP,bu,Option.elim];rfl
     ·unfold me;dsimp only;rw[if_neg (by simp),ZT];have:=xU l[k].b l[k].a (by have:=hb.1.1.1;omega);simp only[asBool,asInt,if_true,U,this,dP]
     ·rw[N3 l _ k (by omega)];have Wc:((l.take k).any fun y=>l[k].stay&&y.stay&&(decide (y.a=l[k].a)||decide (y.b=l[k].b)))=(l[k].stay&&((nx (l.take k) l[k].a).isSome||decide (l[k].b∈jw (l.take k)))):=by
       rw[N0,QY];cases l[k].stay with
       |false=>simp
       |true=>
        rw[Bool.eq_iff_iff];simp only[Bool.true_and,Bool.or_eq_true,List.any_eq_true,Bool.and_eq_true,decide_eq_true_eq];constructor
        ·rintro⟨x,h1,h2,h3|h3⟩
         ·exact Or.inl ⟨x,h1,h2,h3⟩
         ·exact Or.inr ⟨x,h1,h2,h3⟩
        ·rintro(⟨x,h1,h2,h3⟩|⟨x,h1,h2,h3⟩)
         ·exact⟨x,h1,h2,Or.inl h3⟩
         ·exact⟨x,h1,h2,Or.inr h3⟩
      rw[Wc]
    rw[adN];have hlen:(l.take k).length=k:=by simp;omega
    have hac:decide (l[k].ac=((ax runs l[k].a).length:Int)-1)=decide (l[k].ac+1=((ax runs l[k].a).length:Int)):=by rw[Bool.eq_iff_iff];simp only[decide_eq_true_eq];omega
    rw[hac];unfold oK;rw[hlen];generalize (!decide (l[k].ac+1=((ax runs l[k].a).length:Int)))=X1;generalize (!decide (l[k].bc=0))=X2;generalize (nx (l.take k) l[k].a).isSome=X3;generalize decide (l[k].b∈jw (l.take k))=X4;generalize k9 (l.take k) l[k].b l[k].a (k+1)=X5;by_cases bN:ck l[k]∈(l.map ck).take k
    ·simp only[bN,if_true];cases l[k].stay<;>cases X1<;>cases X2<;>cases X3<;>cases X4<;>cases X5<;>rfl
    ·simp only[bN,if_false];cases l[k].stay<;>cases X1<;>cases X2<;>cases X3<;>cases X4<;>cases X5<;>rfl
   ·simp only[sy,decide_false,Bool.not_false,if_true,ne_eq,not_false_eq_true,Bool.false_eq_true,if_false]
end Go.Ab.Tt
namespace Go.Ab.Tt
set_option maxRecDepth 100000
set_option linter.unusedVariables false
set_option linter.unusedSimpArgs false
def eA(N:aj):Int×Int×Int:=
 if(gC N.stops).2=0 then
  if(fm N.ai).2=0 then
   if(fW N.runs N.stops.length N.ai.length).2=0 then
    if(gJ N.runs N.aq).2=0 then
     if(cU N.paths N.stops.length).2=0 then if(dF N.aM N.bd N.within N.cap).2=0 then(0,0,0)else(5,dF N.aM N.bd N.within N.cap)
     else(4,cU N.paths N.stops.length)
    else(3,gJ N.runs N.aq)
   else(2,fW N.runs N.stops.length N.ai.length)
  else(1,fm N.ai)
 else(0,gC N.stops)
def fT(x:Int×Int×Int):PV:=.bj [.int .i64 x.1,.int .i64 x.2.1,.int .i64 x.2.2]
theorem r3E(p i e:Int):PV.agg [cell (r3 p i e) 0,cell (r3 p i e) 1,cell (r3 p i e) 2]=r3 p i e:=rfl
theorem UP(p i e:Int):PV.agg [.int .i64 p,.int .i64 i,.int .i64 e]=r3 p i e:=rfl
theorem tF(p i e q j f:Int):cK [.rs 3 [r3 p i e,r3 q j f]]=some (if e=0 then(if f=0 then r3 0 0 0 else r3 q j f)else r3 p i e):=by
 simp only[cK,qf,ab,if_true,U];have h0:=bn (body:=gh) (fun k=>([r3 p i e,r3 q j f],(2:Int),(k:Int),0,0,0,())) 2 (fun k=>if k=0 then(if e=0 then none else some (some (r3 p i e)))else(if f=0 then none else some (some (r3 q j f)))) (fin:=some (r3 0 0 0)) (fun k hk rec=>?_) (fun rec=>?_) (by decide) (s0:=([r3 p i e,r3 q j f],(2:Int),0,0,0,0,())) rfl
 ·refine h0.trans ?_;have:List.range 2=[0,1]:=rfl;rw[this];by_cases he:e=0
  ·by_cases hf:f=0<;>simp[he,hf,eQ]
  ·simp[he,eQ]
 ·have h2:k=0∨k=1:=by omega
  rcases h2 with rfl|rfl
  ·unfold gh;dsimp only;rw[if_pos (by simp),aK];simp only[List.getElem?_cons_zero,U,BC,asInt,if_true,lF,r3E,ao (show 0<9223372036854775807 by omega)];by_cases he:e=0
   ·simp only[he,decide_true,Bool.not_true,Bool.false_eq_true,if_false,if_true];rfl
   ·simp only[he,decide_false,Bool.not_false,if_false,if_true];rfl
  ·unfold gh;dsimp only;rw[if_pos (by simp),aK];simp only[List.getElem?_cons_succ,List.getElem?_cons_zero,U,BC,asInt,if_true,lF,r3E,ao (show 1<9223372036854775807 by omega)];by_cases he:f=0
   ·simp only[he,decide_true,Bool.not_true,Bool.false_eq_true,if_false,if_true];rfl
   ·simp only[he,decide_false,Bool.not_false,if_false,if_true];rfl
 ·unfold gh;dsimp only;rw[if_neg (by simp)];rfl
theorem J3(p:Int)(x:Int×Int):prt p x=if x.2=0 then r3 0 0 0 else r3 p x.1 x.2:=rfl
theorem xV{l:List Stop}(h:(gC l).2=0):l.length≤64:=by
 unfold gC at h;by_cases sA:l.length>64
 ·rw[if_pos sA]at h;cases h
 ·omega
theorem zb(a b:Int):(a==b)=decide (a=b):=fa a b
theorem BH(N:aj)(h:N.Ok)(hp:N.paths.length≤4096):dW [N.pv]=some (fT (eA N)):=by
 have hs:=NP N.stops h.stops;have hr:=JN N.ai h.ai;have hu:=Eo N h.runs;have hl:=Cn N h.runs h.aq.1;have hf:=JP N.aM N.bd N.within N.cap h.aM;unfold uv at hf;simp only[dW,pW,qM,rI,rJ,rK,rL,rM,rN,rO,rP,rQ,U,xO];simp only[hs,hr,hf,hu,hl,U,res,bY,List.length_cons,List.length_nil,Nat.reduceAdd,if_true,List.getD_cons_zero,List.getD_cons_succ,BD,L9,UP,tF];unfold eA;by_cases h1:(gC N.stops).2=0
 ·have XS:=Cl N (xV h1) hp;simp only[XS,U,h1,if_true];by_cases h2:(fm N.ai).2=0
  ·simp only[h2,if_true];rw[J3 2,J3 3,J3 4];by_cases h3:(fW N.runs N.stops.length N.ai.length).2=0
   ·simp only[h3,if_true];by_cases h4:(gJ N.runs N.aq).2=0
    ·simp only[h4,if_true];by_cases h5:(cU N.paths N.stops.length).2=0
     ·simp only[h5,if_true];by_cases h6:(dF N.aM N.bd N.within N.cap).2=0
      ·simp only[h6,if_true,L9,UP,xP,xg,BC,asInt,U,tF,zb,decide_true,decide_false,Bool.false_eq_true,fT]
      ·simp only[h6,if_true,if_false,L9,UP,xP,xg,BC,asInt,U,tF,zb,decide_true,decide_false,Bool.false_eq_true,fT]
     ·simp only[h5,if_true,if_false,L9,UP,xP,xg,BC,asInt,U,tF,zb,decide_true,decide_false,Bool.false_eq_true,fT]
    ·simp only[h4,if_true,if_false,L9,UP,xP,xg,BC,asInt,U,tF,zb,decide_true,decide_false,Bool.false_eq_true,fT]
   ·simp only[h3,if_true,if_false,L9,UP,xP,xg,BC,asInt,U,tF,zb,decide_true,decide_false,Bool.false_eq_true,fT]
  ·simp only[h2,if_true,if_false,L9,UP,xP,xg,BC,asInt,U,tF,zb,decide_true,decide_false,Bool.false_eq_true,fT]
 ·simp only[h1,if_true,if_false,L9,UP,xP,xg,BC,asInt,U,tF,zb,decide_true,decide_false,Bool.false_eq_true,fT]
theorem Es(N:aj)(h:N.Ok)(hn:N.stops.length≤64)(hp:N.paths.length≤4096):cF.run lh (0,N.stops.map Stop.pv,N.ai.map aF.pv,N.runs.map cn.pv,N.aq.map aN.pv,N.paths.map Path.pv,N.aM.map aZ.pv,N.bd,N.within,N.cap,())=some (fT (if(bS (cB N.runs N.aq) N.aq.length).2=0 then
  if(cU N.paths N.stops.length).2=0 then if(dF N.aM N.bd N.within N.cap).2=0 then(0,0,0)else(5,dF N.aM N.bd N.within N.cap)
  else(4,cU N.paths N.stops.length)
 else(3,bS (cB N.runs N.aq) N.aq.length))):=by
 have hm:=bg
 have PQ:=h.aq.1
 have XS:=NY N hn hp
 have hf:=NR N.aM N.bd N.within N.cap h.aM
 unfold uv at hf
 have hg:=gP (cB N.runs N.aq) N.aq.length (fun i e=>fT (3,i,e)) (some (fT (if(cU N.paths N.stops.length).2=0 then if(dF N.aM N.bd N.within N.cap).2=0 then(0,0,0)else(5,dF N.aM N.bd N.within N.cap)else(4,cU N.paths N.stops.length))))
 have hR:(if(bS (cB N.runs N.aq) N.aq.length).2=0 then(some (fT (if(cU N.paths N.stops.length).2=0 then if(dF N.aM N.bd N.within N.cap).2=0 then(0,0,0)else(5,dF N.aM N.bd N.within N.cap)else(4,cU N.paths N.stops.length))))else some (fT (3,(bS (cB N.runs N.aq) N.aq.length).1,(bS (cB N.runs N.aq) N.aq.length).2)))=some (fT (if(bS (cB N.runs N.aq) N.aq.length).2=0 then
   if(cU N.paths N.stops.length).2=0 then if(dF N.aM N.bd N.within N.cap).2=0 then(0,0,0)else(5,dF N.aM N.bd N.within N.cap)
   else(4,cU N.paths N.stops.length)
  else(3,bS (cB N.runs N.aq) N.aq.length))):=by
  by_cases hz:(bS (cB N.runs N.aq) N.aq.length).2=0
  ·rw[if_pos hz,if_pos hz]
  ·rw[if_neg hz,if_neg hz]
 rw[←hR,←hg]
 refine vb (fun k=>((k:Int),N.stops.map Stop.pv,N.ai.map aF.pv,N.runs.map cn.pv,N.aq.map aN.pv,N.paths.map Path.pv,N.aM.map aZ.pv,N.bd,N.within,N.cap,())) N.aq.length _ (fun k hk zx rec=>?_) (fun _ rec=>?_) (by have:=aU;omega) rfl
 ·have ZU:∀j,j<k→cB N.runs N.aq j=0:=fun j hj=>by
   have:=zx j hj;by_cases h0:cB N.runs N.aq j=0
   ·exact h0
   ·rw[if_neg h0]at this;cases this
  have Tg:=QZ N h.runs PQ k hk ZU;have h1:decide ((k:Int)<((N.aq.map aN.pv).length:Int))=true:=by simp;omega
  unfold lh;dsimp only;rw[if_pos h1,xO,Tg];simp only[U,asInt,if_true,lF,ao (show k<9223372036854775807 by omega)];by_cases he:cB N.runs N.aq k=0
  ·simp only[he,decide_true,Bool.not_true,Bool.false_eq_true,if_false,if_true];rfl
  ·simp only[he,decide_false,Bool.not_false,if_false,if_true];rfl
 ·unfold lh;dsimp only;rw[if_neg (by simp),xO,XS];simp only[U,res,bY,List.length_cons,List.length_nil,Nat.reduceAdd,if_true,List.getD_cons_zero,List.getD_cons_succ,asInt,lF,hf];by_cases h5:(cU N.paths N.stops.length).2=0
  ·simp only[h5,decide_true,Bool.not_true,Bool.false_eq_true,if_false,if_true];by_cases h6:(dF N.aM N.bd N.within N.cap).2=0
   ·simp only[h6,decide_true,Bool.not_true,Bool.false_eq_true,if_false,if_true,fT]
   ·simp only[h6,decide_false,Bool.not_false,Bool.false_eq_true,if_false,if_true,fT]
  ·simp only[h5,decide_false,Bool.not_false,Bool.false_eq_true,if_false,if_true,fT]
theorem N4(N:aj)(h:N.Ok)(hp:N.paths.length≤4096):jy [N.pv]=some (fT (eA N)):=by
 have hm:=bg;have cN:4096≤maxLen:=by decide
 have hs:=NQ N.stops h.stops;have hr:=JO N.ai h.ai;simp only[jy,tp,qM,rI,rJ,rK,rL,rM,rN,rO,rP,rQ,U];simp only[hs,hr,U,res,bY,List.length_cons,List.length_nil,Nat.reduceAdd,if_true,List.getD_cons_zero,List.getD_cons_succ,asInt,lF];unfold eA;by_cases h1:(gC N.stops).2=0
 ·have se:=Es N h (xV h1) hp;simp only[h1,decide_true,Bool.not_true,Bool.false_eq_true,if_false,if_true];by_cases h2:(fm N.ai).2=0
  ·simp only[h2,decide_true,Bool.not_true,Bool.false_eq_true,if_false,if_true];unfold fW;by_cases sA:N.runs.length>1024
   ·rw[if_pos (by simp;omega),if_pos sA];rfl
   ·rw[if_neg (by simp;omega),if_neg sA];generalize hE:iJ N.runs N.stops.length N.ai.length=E;generalize hF:(if(gJ N.runs N.aq).2=0 then
     if(cU N.paths N.stops.length).2=0 then if(dF N.aM N.bd N.within N.cap).2=0 then((0:Int),(0:Int),(0:Int))else(5,dF N.aM N.bd N.within N.cap)
     else(4,cU N.paths N.stops.length)
    else(3,gJ N.runs N.aq))=F
    have hg:=gP E N.runs.length (fun i e=>fT (2,i,e)) (some (fT F));have hR:(if(bS E N.runs.length).2=0 then some (fT F)else some (fT (2,(bS E N.runs.length).1,(bS E N.runs.length).2)))=some (fT (if(bS E N.runs.length).2=0 then F else(2,bS E N.runs.length))):=by
     by_cases hz:(bS E N.runs.length).2=0
     ·rw[if_pos hz,if_pos hz]
     ·rw[if_neg hz,if_neg hz]
    rw[←hR,←hg];refine bn (fun k=>((k:Int),N.stops.map Stop.pv,N.ai.map aF.pv,N.runs.map cn.pv,N.aq.map aN.pv,N.paths.map Path.pv,N.aM.map aZ.pv,N.bd,N.within,N.cap,())) N.runs.length _ (fun k hk rec=>?_) (fun rec=>?_) (by have:=aU;omega) rfl
    ·have zq:=Tx N h.runs k hk;rw[hE]at zq;have h1:decide ((k:Int)<((N.runs.map cn.pv).length:Int))=true:=by simp;omega
     unfold oL;dsimp only;rw[if_pos h1,xO,zq];simp only[U,asInt,if_true,lF,ao (show k<9223372036854775807 by omega)];by_cases he:E k=0
     ·simp only[he,decide_true,Bool.not_true,Bool.false_eq_true,if_false,if_true];rfl
     ·simp only[he,decide_false,Bool.not_false,if_false,if_true];rfl
    ·unfold oL;dsimp only;rw[if_neg (by simp),←hF];unfold gJ;by_cases Fh:N.aq.length>1024
     ·rw[if_pos (by simp;omega),if_pos Fh];rfl
     ·rw[if_neg (by simp;omega),if_neg Fh,se]
  ·simp only[h2,decide_false,Bool.not_false,Bool.false_eq_true,if_false,if_true,fT]
 ·simp only[h1,decide_false,Bool.not_false,Bool.false_eq_true,if_false,if_true,fT]
end Go.Ab.Tt
namespace Go.Ab.Tt
set_option maxRecDepth 100000
set_option linter.unusedVariables false
set_option linter.unusedSimpArgs false
theorem J4{N:aj}(h:(eA N).2.2=0):∀k,k<N.runs.length→iJ N.runs N.stops.length N.ai.length k=0:=by
 unfold eA at h;by_cases h1:(gC N.stops).2=0
 ·rw[if_pos h1]at h;by_cases h2:(fm N.ai).2=0
  ·rw[if_pos h2]at h;by_cases h3:(fW N.runs N.stops.length N.ai.length).2=0
   ·unfold fW at h3;by_cases sA:N.runs.length>1024
    ·rw[if_pos sA]at h3;cases h3
    ·rw[if_neg sA]at h3;exact(lU _ _).1 h3
   ·rw[if_neg h3]at h;exact absurd h h3
  ·rw[if_neg h2]at h;exact absurd h h2
 ·rw[if_neg h1]at h;exact absurd h h1
theorem tG{N:aj}(h:(eA N).2.2=0):∀r∈N.runs,(bw r.calls N.stops.length 0 3155932800).2=0:=by
 intro r hr;obtain⟨k,hk,rfl⟩:=List.getElem_of_mem hr;have:=J4 h k hk;unfold iJ at this;rw[List.getElem?_eq_getElem hk]at this;simp only at this;by_cases hc:(bw N.runs[k].calls N.stops.length 0 3155932800).2=0
 ·exact hc
 ·rw[if_neg hc]at this;split at this
  ·cases this
  ·split at this
   ·cases this
   ·split at this
    ·cases this
    ·split at this
     ·cases this
     ·exact absurd this hc
theorem tH{l:List av}{n a b:Int}(h:(bw l n a b).2=0):2≤l.length∧l.length≤32:=by
 unfold bw at h;by_cases hc:(decide ((l.length:Int)<2)||decide ((l.length:Int)>32))=true
 ·rw[if_pos hc]at h;cases h
 ·simp only[Bool.or_eq_true,decide_eq_true_eq,not_or]at hc;omega
theorem zd{l:List av}{n a b:Int}(h:(bw l n a b).2=0):∀k,k<l.length→mb l n a b k=0:=by
 unfold bw at h;by_cases hc:(decide ((l.length:Int)<2)||decide ((l.length:Int)>32))=true
 ·rw[if_pos hc]at h;cases h
 ·rw[if_neg hc]at h;exact(lU _ _).1 h
theorem oM{c:av}{p:Option av}{n a b:Int}(h:kX c p n a b=0):c.arr≤c.dep∧a≤c.arr∧c.dep≤b∧∀q,p=some q→q.dep≤c.arr:=by
 unfold kX at h;cases p with
 |none=>
  dsimp only at h;by_cases hA:(decide (c.stop<0)||decide (c.stop≥n))=true
  ·rw[if_pos hA]at h;cases h
  ·rw[if_neg hA,if_neg (by simp)]at h;by_cases hC:(decide (c.arr<a)||decide (c.arr>c.dep)||decide (c.dep>b)||false)=true
   ·rw[if_pos hC]at h;cases h
   ·simp only[Bool.or_eq_true,decide_eq_true_eq,not_or]at hC;exact⟨by omega,by omega,by omega,fun q hq=>by cases hq⟩
 |some r=>
  dsimp only at h;by_cases hA:(decide (c.stop<0)||decide (c.stop≥n))=true
  ·rw[if_pos hA]at h;cases h
  ·rw[if_neg hA]at h;by_cases hB:decide (r.stop=c.stop)=true
   ·rw[if_pos hB]at h;cases h
   ·rw[if_neg hB]at h;by_cases hC:(decide (c.arr<a)||decide (c.arr>c.dep)||decide (c.dep>b)||decide (c.arr<r.dep))=true
    ·rw[if_pos hC]at h;cases h
    ·simp only[Bool.or_eq_true,decide_eq_true_eq,not_or]at hC;exact⟨by omega,by omega,by omega,fun q hq=>by cases hq;omega⟩
end Go.Ab.Tt
namespace Go.Ab.Tt
set_option maxRecDepth 100000
set_option linter.unusedVariables false
set_option linter.unusedSimpArgs false
theorem Stop.peq(x y:Stop):cV [cell x.pv 0,cell x.pv 1,cell x.pv 2,cell x.pv 3] [cell y.pv 0,cell y.pv 1,cell y.pv 2,cell y.pv 3]=decide (x=y):=by cases x;cases y;rw[Bool.eq_iff_iff];simp[cell,Stop.pv,PV.cells,cV,Ab.peq]
theorem aF.peq(x y:aF):cV [cell x.pv 0,cell x.pv 1,cell x.pv 2] [cell y.pv 0,cell y.pv 1,cell y.pv 2]=decide (x=y):=by cases x;cases y;rw[Bool.eq_iff_iff];simp[cell,aF.pv,PV.cells,cV,Ab.peq]
theorem av.peq(x y:av):cV [cell x.pv 0,cell x.pv 1,cell x.pv 2,cell x.pv 3,cell x.pv 4] [cell y.pv 0,cell y.pv 1,cell y.pv 2,cell y.pv 3,cell y.pv 4]=decide (x=y):=by cases x;cases y;rw[Bool.eq_iff_iff];simp[cell,av.pv,PV.cells,cV,Ab.peq]
theorem aN.peq(x y:aN):cV [cell x.pv 0,cell x.pv 1,cell x.pv 2,cell x.pv 3,cell x.pv 4] [cell y.pv 0,cell y.pv 1,cell y.pv 2,cell y.pv 3,cell y.pv 4]=decide (x=y):=by cases x;cases y;rw[Bool.eq_iff_iff];simp[cell,aN.pv,PV.cells,cV,Ab.peq]
theorem Path.peq(x y:Path):cV [cell x.pv 0,cell x.pv 1,cell x.pv 2,cell x.pv 3] [cell y.pv 0,cell y.pv 1,cell y.pv 2,cell y.pv 3]=decide (x=y):=by cases x;cases y;rw[Bool.eq_iff_iff];simp[cell,Path.pv,PV.cells,cV,Ab.peq]
theorem aZ.peq(x y:aZ):cV [cell x.pv 0,cell x.pv 1,cell x.pv 2,cell x.pv 3,cell x.pv 4,cell x.pv 5] [cell y.pv 0,cell y.pv 1,cell y.pv 2,cell y.pv 3,cell y.pv 4,cell y.pv 5]=decide (x=y):=by cases x;cases y;rw[Bool.eq_iff_iff];simp[cell,aZ.pv,PV.cells,cV,Ab.peq]
theorem Me{a b:Nat}:((a:Int) !=(b:Int))= !decide (a=b):=by rw[Bool.eq_iff_iff];simp;omega
theorem WE{c:Prop}[Decidable c]:(if c then some (PV.bool true)else some (PV.bool false))=some (PV.bool (decide c)):=by by_cases h:c<;>simp[h]
theorem pd(a b:List av)(ha:a.length≤maxLen):ca [.rs 5 (a.map av.pv),.rs 5 (b.map av.pv)]=some (.bool (decide (a=b))):=by
 have hm:=bg;simp only[ca,gA,ab,if_true,U,List.length_map];by_cases h:a.length=b.length
 ·rw[if_neg (by rw[Me];simp[h])];refine(bn (fun k=>(a.map av.pv,b.map av.pv,(a.length:Int),(k:Int),())) a.length (fun k=>if a[k]?=b[k]? then none else some (some (PV.bool false))) (fun k hk rec=>?_) (fin:=some (PV.bool true)) (fun rec=>?_) (by have:=aU;omega) rfl).trans ?_
  ·have h1:decide ((k:Int)<(a.length:Int))=true:=by simp;omega
   have mM:k<b.length:=by omega
   unfold fA;dsimp only;try rw[List.length_map]
   rw[if_pos h1,aK,aK,List.getElem?_map,List.getElem?_map,List.getElem?_eq_getElem hk,List.getElem?_eq_getElem mM];simp only[Option.map_some,U];rw[if_pos ⟨rfl,rfl⟩,av.peq,ao (by omega)];by_cases he:a[k]=b[k]
   ·simp[he,eQ]
   ·simp[he,eQ]
  ·unfold fA;dsimp only;rw[if_neg (by simp)]
  ·exact(El a b h (some (PV.bool false)) (some (PV.bool true))).trans WE
 ·rw[if_pos (by rw[Me];simp[h])];have:a≠b:=fun e=>h (by rw[e]);simp[this]
theorem TA(x y:cn):decide (x=y)=(decide (x.dv=y.dv)&&decide (x.day=y.day)&&decide (x.inst=y.inst)&&decide (x.id=y.id)&&decide (x.bh=y.bh)&&decide (x.free=y.free)&&decide (x.rH=y.rH)&&decide (x.calls=y.calls)):=by cases x;cases y;rw[Bool.eq_iff_iff];simp[and_assoc]
end Go.Ab.Tt
namespace Go.Ab.Tt
set_option maxRecDepth 100000
set_option linter.unusedVariables false
set_option linter.unusedSimpArgs false
theorem cH(es:List PV)(n:Nat)(h:es.length≤1000)(hn:0<n)(hn2:n≤1000):(([]:List PV)++es).length*n≤aa∧0<n:=by refine⟨?_,hn⟩;rw[List.nil_append];have:es.length*n≤1000*1000:=Nat.mul_le_mul h hn2;unfold aa;omega
theorem j4(es:List PV):List.take (((([]:List PV)++es).length:Int).toNat) (([]:List PV)++es)=es:=by simp
theorem BI(es:List PV)(h:es.length≤1000):cw [.rs 4 es]=some (.rs 4 es):=by simp only[cw,j3,ab,if_true,U];rw[if_pos (cH es 40 h (by decide) (by decide)),if_pos ⟨by omega,by omega,by omega,trivial⟩,j4]
theorem ze(es:List PV)(h:es.length≤1000):cg [.rs 3 es]=some (.rs 3 es):=by simp only[cg,je,ab,if_true,U];rw[if_pos (cH es 32 h (by decide) (by decide)),if_pos ⟨by omega,by omega,by omega,trivial⟩,j4]
theorem Da(es:List PV)(h:es.length≤1000):cP [.rs 8 es]=some (.rs 8 es):=by simp only[cP,kS,ab,if_true,U];rw[if_pos (cH es 80 h (by decide) (by decide)),if_pos ⟨by omega,by omega,by omega,trivial⟩,j4]
theorem BJ(es:List PV)(h:es.length≤1000):cy [.rs 5 es]=some (.rs 5 es):=by simp only[cy,jZ,ab,if_true,U];rw[if_pos (cH es 40 h (by decide) (by decide)),if_pos ⟨by omega,by omega,by omega,trivial⟩,j4]
theorem tI(es:List PV)(h:es.length≤1000):bF [.rs 4 es]=some (.rs 4 es):=by simp only[bF,gB,ab,if_true,U];rw[if_pos (cH es 32 h (by decide) (by decide)),if_pos ⟨by omega,by omega,by omega,trivial⟩,j4]
theorem BK(es:List PV)(h:es.length≤1000):cz [.rs 5 es]=some (.rs 5 es):=by simp only[cz,jV,ab,if_true,U];rw[if_pos (cH es 32 h (by decide) (by decide)),if_pos ⟨by omega,by omega,by omega,trivial⟩,j4]
theorem vd(es:List PV)(h:es.length≤1000):bM [.rs 6 es]=some (.rs 6 es):=by simp only[bM,gQ,ab,if_true,U];rw[if_pos (cH es 56 h (by decide) (by decide)),if_pos ⟨by omega,by omega,by omega,trivial⟩,j4]
variable{A:Type}
def mix(f g:A→PV)(l:List A)(k:Nat):List PV:=(l.take k).map f++(l.drop k).map g
theorem GL(f g:A→PV)(l:List A):mix f g l 0=l.map g:=by simp[mix]
theorem Et(f g:A→PV)(l:List A):mix f g l l.length=l.map f:=by simp[mix]
theorem Mf(f g:A→PV)(l:List A)(k:Nat):(mix f g l k).length=l.length:=by simp[mix];omega
theorem Mg(f g:A→PV)(l:List A)(k:Nat)(h:k<l.length):(mix f g l k)[k]?=some (g l[k]):=by unfold mix;rw[List.getElem?_append_right (by simp;omega)];simp only[List.length_map,List.length_take,Nat.min_eq_left (Nat.le_of_lt h),Nat.sub_self,List.getElem?_map,List.getElem?_drop,Nat.add_zero,List.getElem?_eq_getElem h,Option.map_some]
theorem Mh(f g:A→PV)(l:List A)(k:Nat)(h:k<l.length):(mix f g l k).set k (f l[k])=mix f g l (k+1):=by
 apply List.ext_getElem?;intro j;rw[List.getElem?_set];unfold mix;by_cases hj:k=j
 ·subst hj;rw[if_pos rfl,if_pos (by simp;omega),List.getElem?_append_left (by simp;omega)];simp[h]
 ·rw[if_neg hj];by_cases bp:j<k
  ·rw[List.getElem?_append_left (by simp;omega),List.getElem?_append_left (by simp;omega)];simp[bp,Nat.lt_succ_of_lt bp]
  ·rw[List.getElem?_append_right (by simp;omega),List.getElem?_append_right (by simp;omega)];simp only[List.length_map,List.length_take,List.getElem?_map,List.getElem?_drop];congr 2;omega
theorem eg(f g:A→PV)(l:List A)(k:Nat)(h:k<l.length)(p:PV):((mix f g l k).set k p)[k]?=some p:=by rw[List.getElem?_set,if_pos rfl,if_pos (by rw[Mf];exact h)]
theorem Eu(f g:A→PV)(l:List A)(k:Nat)(h:k<l.length):ae (k:Int) (mix f g l k).length:=by rw[Mf];exact⟨by omega,by omega⟩
def cn.pn(x:cn):PV:=.agg [.int .i64 x.dv,.int .i64 x.day,.int .i64 x.inst,.str x.id,.int .i64 x.bh,.bool x.free,.bool x.rH,.fK 5 (x.calls.map av.pv)]
theorem j5(l:List cn):(l.map cn.pn).map PV.strip=l.map cn.pv:=by rw[List.map_map];rfl
end Go.Ab.Tt
