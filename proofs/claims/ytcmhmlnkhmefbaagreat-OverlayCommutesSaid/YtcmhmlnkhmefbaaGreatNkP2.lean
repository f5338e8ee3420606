import Derived.Test.YtcmhmlnkhmefbaaGreatNkP1
import Derived.Test.YtcmhmlnkhmefbaaGreatNwP2
namespace Go.Ab.Tt
set_option maxRecDepth 100000
set_option linter.unusedVariables false
set_option linter.unusedSimpArgs false
def bY(x:Path):Int×Int×Bool:=(x.a,x.b,x.free)
def yC(x:Int×Int×Bool):PV:=.agg [.int .i64 x.1,.int .i64 x.2.1,.bool x.2.2]
theorem He(a b:Int×Int×Bool):cA (yC a).cells (yC b).cells=decide (a=b):=by obtain⟨a1,a2,a3⟩:=a;obtain⟨b1,b2,b3⟩:=b;rw[Bool.eq_iff_iff];simp[yC,PV.cells,cA,peq]
def dr(l:List Path)(n:Int)(k:Nat):Int:=match l[k]? with
 |none=>0
 |some x=>if(decide (x.a<0)||decide (x.a≥n)||decide (x.b<0)||decide (x.b≥n)||decide (x.a=x.b))=true then 9 else if(decide (x.bM<1)||decide (x.bM>14400))=true then 2 else if bY x∈(l.map bY).take k then 6 else 0
theorem KH(l:List Path)(n:Int)(hl:l.length≤maxLen):eA [.rs 4 (l.map Path.pv),.int .i64 n]=some (res (bT (dr l n) l.length).1 (bT (dr l n) l.length).2):=by
 have hm:=aW;simp only[eA,oP,ab,asInt,if_true,U,List.length_map];rw[←mK];refine aX (fun k=>(n,l.map Path.pv,(l.length:Int),(k:Int),seen yC ((l.map bY).take k),())) l.length _ (fun k hk rec=>?_) (fun rec=>?_) ?_ rfl
 ·have h1:(k:Int)<(l.length:Int):=by omega
  have qt:eO (.agg [.int .i64 l[k].a,.int .i64 l[k].b,.bool l[k].free]) (.bool true) (seen yC ((l.map bY).take k))=_:=mL He (bY l[k]) ((l.map bY).take k);have rj:dK (.agg [.int .i64 l[k].a,.int .i64 l[k].b,.bool l[k].free]) (.bool false) (seen yC ((l.map bY).take k))=_:=kD He (bY l[k]) ((l.map bY).take k);simp only[lj,decide_eq_true_eq,h1,if_true,ay,List.getElem?_map,List.getElem?_eq_getElem hk,Option.map_some,U,Hb,Hc,M3,Hd,asInt,asBool,qt,rj,eW,al (show k<9223372036854775807 by omega),oT bY l k hk];unfold dr;rw[List.getElem?_eq_getElem hk];simp only;by_cases bO:bY l[k]∈(l.map bY).take k
  ·simp only[bO,if_true];by_cases e1:l[k].a<0<;>by_cases e2:l[k].a≥n<;>by_cases e3:l[k].b<0<;>by_cases e4:l[k].b≥n<;>by_cases e5:l[k].a=l[k].b<;>by_cases e6:l[k].bM<1<;>by_cases e7:l[k].bM>14400<;>simp only[e1,e2,e3,e4,e5,e6,e7,decide_true,decide_false,Bool.or_true,Bool.true_or,Bool.or_false,if_true,if_false,Bool.false_eq_true]<;>rfl
  ·simp only[bO,if_false,Bool.false_eq_true];by_cases e1:l[k].a<0<;>by_cases e2:l[k].a≥n<;>by_cases e3:l[k].b<0<;>by_cases e4:l[k].b≥n<;>by_cases e5:l[k].a=l[k].b<;>by_cases e6:l[k].bM<1<;>by_cases e7:l[k].bM>14400<;>simp only[e1,e2,e3,e4,e5,e6,e7,decide_true,decide_false,Bool.or_true,Bool.true_or,Bool.or_false,if_true,if_false,Bool.false_eq_true]<;>rfl
 ·simp only[lj,decide_eq_true_eq,Int.lt_irrefl,if_false];rfl
 ·have:=aR;omega
def toFp(p:Path):Nw.Fp:=⟨p.a.toNat,p.b.toNat,p.bM.toNat,p.free⟩
def Sound(l:List Path)(n:Nat):Prop:=∀p∈l,0≤p.a∧p.a<n∧0≤p.b∧p.b<n∧1≤p.bM∧p.bM≤14400
variable{l:List Path}{n:Nat}
theorem Hf(h:(bT (dr l n) l.length).2=0):Sound l n:=by
 intro p hp;obtain⟨k,hk,rfl⟩:=List.getElem_of_mem hp;have h0:=(ma _ _).1 h k hk;unfold dr at h0;rw[List.getElem?_eq_getElem hk]at h0;simp only at h0;by_cases c1:(decide (l[k].a<0)||decide (l[k].a≥n)||decide (l[k].b<0)||decide (l[k].b≥n)||decide (l[k].a=l[k].b))=true
 ·rw[if_pos c1]at h0;omega
 ·rw[if_neg c1]at h0;by_cases c2:(decide (l[k].bM<1)||decide (l[k].bM>14400))=true
  ·rw[if_pos c2]at h0;omega
  ·simp only[Bool.or_eq_true,decide_eq_true_eq]at c1 c2;omega
theorem toFp_pv{p:Path}(h1:0≤p.a)(h2:0≤p.b)(h3:1≤p.bM):(toFp p).pv=p.pv:=by simp only[toFp,Nw.Fp.pv,Path.pv];rw[Int.toNat_of_nonneg h1,Int.toNat_of_nonneg h2,Int.toNat_of_nonneg (by omega)]
theorem RS(h:Sound l n):(l.map toFp).map Nw.Fp.pv=l.map Path.pv:=by rw[List.map_map];apply List.map_congr_left;intro p hp;exact toFp_pv (h p hp).1 (h p hp).2.2.1 (h p hp).2.2.2.2.1
def M5(e:List PV):Path:=match e with|[.int .i64 a,.int .i64 b,.int .i64 s,.bool f]=>⟨a,b,s,f⟩|_=>⟨0,0,0,false⟩
theorem Cc:∀(L:List (List PV)),(∀e∈L,Nw.IsF e)→eD L=(L.map M5).map Path.pv
 |[],_=>rfl
 |e::L,h=>by obtain⟨i,k,s,b,rfl⟩:=h e (by simp);have:=Cc L fun x hx=>h x (by simp[hx]);unfold eD at this⊢;rw[List.map_cons,List.map_cons,List.map_cons,this];rfl
def gT(l:List Path)(n:Nat):List Path:=(Nw.CQ n (Nw.pE n (l.map toFp) false) (Nw.pE n (l.map toFp) true)).map M5
theorem DN(hn:n≤64)(hl:l.length≤4096)(h:Sound l n):cZ [.rs 4 (l.map Path.pv),.int .i64 n]=some (.rs 4 ((gT l n).map Path.pv))∧fp [.rs 4 (l.map Path.pv),.int .i64 n]=some (.rs 4 ((gT l n).map Path.pv)):=by have:=Nw.KI (l.map toFp) n hn (by simpa using hl) (fun p hp=>by obtain⟨q,hq,rfl⟩:=List.mem_map.1 hp;have:=h q hq;simp only[toFp];omega);rw[RS h,Cc _ (Nw.Hg n _ _)]at this;exact this
theorem Hh(l:List Path)(n:Nat)(hn:n≤64):(gT l n).length≤8192:=by
 have h1:(gT l n).length=(eD (Nw.CQ n (Nw.pE n (l.map toFp) false) (Nw.pE n (l.map toFp) true))).length:=by simp[gT,eD]
 rw[h1,Nw.yD];have h2:=Nw.xh (it:=fun i k=>Nw.Ag (Nw.pE n (l.map toFp) false i k) (Nw.pE n (l.map toFp) true i k) i k) (fun i k=>Nw.EX _ _ i k) n n;have h3:2*n*n≤2*64*64:=Nat.mul_le_mul (Nat.mul_le_mul_left 2 hn) hn;omega
theorem Hi(x y:Path):cA [cell x.pv 0,cell x.pv 1,cell x.pv 2,cell x.pv 3] [cell y.pv 0,cell y.pv 1,cell y.pv 2,cell y.pv 3]=decide (x=y):=by rw[Bool.eq_iff_iff];obtain⟨a,b,c,d⟩:=x;obtain⟨a',b',c',d'⟩:=y;simp[Hb,Hc,M3,Hd,cA,peq]
theorem xi(x:Path):gQ (Kd.int IntKind.i64::[].append (Kd.int IntKind.i64::[].append (Kd.int IntKind.i64::[].append (Kd.bool::[].append [])))) [cell x.pv 0,cell x.pv 1,cell x.pv 2,cell x.pv 3]=true:=rfl
def lk(l:List Path)(n:Nat):Bool:=decide (gT l n=l)
theorem Hj(hn:n≤64)(hl:l.length≤4096)(h:(bT (dr l n) l.length).2=0):dn [.rs 4 (l.map Path.pv),.int .i64 n]=some (.bool (lk l n)):=by
 have hm:4096≤maxLen:=by decide
 have hs:=KH l n (by omega);have hf:=OY _ _ h;rw[h,hf]at hs;have hc:=(DN hn hl (Hf h)).1;have sF:=Hh l n hn;have sV:¬decide ((n:Int)>64)=true:=by simp;omega
 have h0:¬(0:Int)>(n:Int):=by omega
 simp only[dn,la,ab,asInt,if_true,U];rw[if_neg sV,hs];simp only[res,bW,List.length_cons,List.length_nil,Nat.reduceAdd,if_true,U,List.getD_cons_zero,List.getD_cons_succ,asInt,if_neg h0,hc,ab,List.length_map];rw[if_neg (by decide)];unfold lk;by_cases hlen:(gT l n).length=l.length
 ·rw[if_neg (by simp[kC,hlen])];have hr:=mw (gT l n) l hlen (some (PV.bool false)) (some (PV.bool true));have:some (PV.bool (decide (gT l n=l)))=if gT l n=l then some (PV.bool true)else some (PV.bool false):=by by_cases hc:gT l n=l<;>simp[hc]
  rw[this,←hr];refine aX (fun k=>(l.map Path.pv,(gT l n).map Path.pv,((gT l n).length:Int),(k:Int),())) (gT l n).length _ (fun k hk rec=>?_) (fun rec=>?_) ?_ rfl
  ·have h1:decide ((k:Int)<((gT l n).length:Int))=true:=by simp;omega
   have jn:k<l.length:=by omega
   unfold iT;dsimp only;rw[if_pos h1,ay,List.getElem?_map,List.getElem?_eq_getElem hk,ay,List.getElem?_map,List.getElem?_eq_getElem jn];simp only[Option.map_some,U];rw[if_pos ⟨xi _,xi _⟩,Hi,al (by omega)];by_cases he:(gT l n)[k]=l[k]
   ·simp[he,c8]
   ·simp[he,c8]
  ·unfold iT;dsimp only;rw[if_neg (by simp)]
  ·have:=aR;omega
 ·rw[if_pos (by simp[kC];omega)];rw[decide_eq_false (fun hc=>hlen (by rw[hc]))]
def cV(l:List Path)(n:Nat):Int×Int:=if(bT (dr l n) l.length).2=0 then(if lk l n=true then(0,0)else(0,18))else bT (dr l n) l.length
def qI(x:Int×Int×Bool):PV:=.agg [.int .i64 x.1,.int .i64 x.2.1,.int .i64 0,.bool x.2.2]
theorem aaF(a b:Int×Int×Bool):cA (qI a).cells (qI b).cells=decide (a=b):=by obtain⟨a1,a2,a3⟩:=a;obtain⟨b1,b2,b3⟩:=b;rw[Bool.eq_iff_iff];simp[qI,PV.cells,cA,peq]
theorem zG(N:ag)(l:List Path)(n:Nat)(hl:l.length≤4096)(hlen:(N.stops.map Stop.pv).length=n)(k:Nat)(hk:k<l.length)(rec:OZ→Option PV):cR (l.map Path.pv,(l.length:Int),(k:Int),N.stops.map Stop.pv,N.ae.map au.pv,N.runs.map bw.pv,N.ah.map aG.pv,l.map Path.pv,N.aq.map aQ.pv,N.aN,N.within,N.cap,0,0,0,seen qI ((l.map bY).take k),()) rec=c8 (if dr l n k=0 then none else some (some (r3 4 k (dr l n k)))) (rec (l.map Path.pv,(l.length:Int),((k+1:Nat):Int),N.stops.map Stop.pv,N.ae.map au.pv,N.runs.map bw.pv,N.ah.map aG.pv,l.map Path.pv,N.aq.map aQ.pv,N.aN,N.within,N.cap,0,0,0,seen qI ((l.map bY).take (k+1)),())):=by
 have h1:decide ((k:Int)<(l.length:Int))=true:=by simp;omega
 have qt:eO (.agg [.int .i64 l[k].a,.int .i64 l[k].b,.int .i64 0,.bool l[k].free]) (.bool true) (seen qI ((l.map bY).take k))=_:=mL aaF (bY l[k]) ((l.map bY).take k);have rj:dK (.agg [.int .i64 l[k].a,.int .i64 l[k].b,.int .i64 0,.bool l[k].free]) (.bool false) (seen qI ((l.map bY).take k))=_:=kD aaF (bY l[k]) ((l.map bY).take k);unfold cR;dsimp only;rw[if_pos h1,ay,List.getElem?_map,List.getElem?_eq_getElem hk,hlen];simp only[Option.map_some,U,Hb,Hc,M3,Hd,asInt,asBool,if_true,wg,bn,eW,qt,rj,Cb,M4,yB,xK,Ca,oT bY l k hk,al (show k<9223372036854775807 by omega)];have hA:(!(decide (l[k].a≥0)&&decide (l[k].a<(n:Int)))|| !(decide (l[k].b≥0)&&decide (l[k].b<(n:Int)))||decide (l[k].a=l[k].b))=(decide (l[k].a<0)||decide (l[k].a≥(n:Int))||decide (l[k].b<0)||decide (l[k].b≥(n:Int))||decide (l[k].a=l[k].b)):=by rw[Bool.eq_iff_iff];simp only[Bool.or_eq_true,Bool.not_eq_true',Bool.and_eq_false_iff,decide_eq_true_eq,decide_eq_false_iff_not];omega
 rw[hA];unfold dr;rw[List.getElem?_eq_getElem hk];simp only;generalize (decide (l[k].a<0)||decide (l[k].a≥(n:Int))||decide (l[k].b<0)||decide (l[k].b≥(n:Int))||decide (l[k].a=l[k].b))=A;generalize (decide (l[k].bM<1)||decide (l[k].bM>14400))=B;by_cases bO:bY l[k]∈(l.map bY).take k
 ·simp only[bO,if_true];cases A<;>cases B<;>rfl
 ·simp only[bO,if_false];cases A<;>cases B<;>rfl
theorem CR(N:ag)(hn:N.stops.length≤64)(hl:N.paths.length≤4096):bE [N.pv]=some (prt 4 (cV N.paths N.stops.length)):=by
 have hm:4096≤maxLen:=by decide
 simp only[bE,jZ,pD,rn,rq,rr,ru,ry,rz,rA,rB,rC,U,List.length_map];generalize IB:N.paths=l at hl⊢;generalize N7:N.stops.length=n at hn⊢;have hlen:(N.stops.map Stop.pv).length=n:=by simpa using N7
 have hg:=hU (dr l n) l.length (fun i e=>r3 4 i e) (some (if lk l n=true then r3 0 0 0 else r3 4 0 18));have hR:some (prt 4 (cV l n))=if(bT (dr l n) l.length).2=0 then some (if lk l n=true then r3 0 0 0 else r3 4 0 18)else some (r3 4 (bT (dr l n) l.length).1 (bT (dr l n) l.length).2):=by
  unfold cV prt;by_cases h:(bT (dr l n) l.length).2=0
  ·rw[if_pos h,if_pos h];cases lk l n<;>rfl
  ·rw[if_neg h,if_neg h,if_neg h]
 rw[hR,←hg];by_cases hz:(bT (dr l n) l.length).2=0
 ·refine aX (fun k=>(l.map Path.pv,(l.length:Int),(k:Int),N.stops.map Stop.pv,N.ae.map au.pv,N.runs.map bw.pv,N.ah.map aG.pv,l.map Path.pv,N.aq.map aQ.pv,N.aN,N.within,N.cap,0,0,0,seen qI ((l.map bY).take k),())) l.length _ (fun k hk rec=>zG N l n hl hlen k hk rec) (fun rec=>?_) ?_ rfl
  ·unfold cR;dsimp only;rw[if_neg (by simp),hlen,Hj hn hl hz];simp only[U,asBool,Cb,M4,yB,xK,Ca];cases lk l n<;>rfl
  ·have:=aR;omega
 ·have sU:=aX (body:=cR) (fun k=>(l.map Path.pv,(l.length:Int),(k:Int),N.stops.map Stop.pv,N.ae.map au.pv,N.runs.map bw.pv,N.ah.map aG.pv,l.map Path.pv,N.aq.map aQ.pv,N.aN,N.within,N.cap,0,0,0,seen qI ((l.map bY).take k),())) l.length _ (fin:=cR (l.map Path.pv,(l.length:Int),(l.length:Int),N.stops.map Stop.pv,N.ae.map au.pv,N.runs.map bw.pv,N.ah.map aG.pv,l.map Path.pv,N.aq.map aQ.pv,N.aN,N.within,N.cap,0,0,0,seen qI ((l.map bY).take l.length),()) fun _=>none) (fun k hk rec=>zG N l n hl hlen k hk rec) (fun rec=>?_) (by have:=aR;omega) (s0:=(l.map Path.pv,(l.length:Int),0,N.stops.map Stop.pv,N.ae.map au.pv,N.runs.map bw.pv,N.ah.map aG.pv,l.map Path.pv,N.aq.map aQ.pv,N.aN,N.within,N.cap,0,0,0,[],())) rfl
  ·rw[sU,hU,hU,if_neg hz,if_neg hz]
  ·unfold cR;dsimp only;rw[if_neg (by simp),if_neg (by simp)]
end Go.Ab.Tt
namespace Go.Ab.Tt
set_option maxRecDepth 100000
set_option linter.unusedVariables false
set_option linter.unusedSimpArgs false
theorem EY(N:ag)(l:List Path)(hl:l.length≤4096)(i:Nat)(hi:i<l.length)(fb:CS→Option PV):ca.run (ll fb) ((i:Int),0,N.stops.map Stop.pv,N.ae.map au.pv,N.runs.map bw.pv,N.ah.map aG.pv,l.map Path.pv,N.aq.map aQ.pv,N.aN,N.within,N.cap,.int .i64 l[i].a,.int .i64 l[i].b,.int .i64 l[i].bM,.bool l[i].free,())=if bY l[i]∈(l.map bY).take i then some (res i 6)else fb (IntKind.i64.wrap ((i:Int)+1),N.stops.map Stop.pv,N.ae.map au.pv,N.runs.map bw.pv,N.ah.map aG.pv,l.map Path.pv,N.aq.map aQ.pv,N.aN,N.within,N.cap,()):=by
 have hm:4096≤maxLen:=by decide
 refine(oW (fun k=>((i:Int),(k:Int),N.stops.map Stop.pv,N.ae.map au.pv,N.runs.map bw.pv,N.ah.map aG.pv,l.map Path.pv,N.aq.map aQ.pv,N.aN,N.within,N.cap,PV.int .i64 l[i].a,PV.int .i64 l[i].b,PV.int .i64 l[i].bM,PV.bool l[i].free,())) i (fun k=>decide ((l.map bY)[k]?=some (bY l[i]))) (no:=some (res i 6)) (fin:=fb (IntKind.i64.wrap ((i:Int)+1),N.stops.map Stop.pv,N.ae.map au.pv,N.runs.map bw.pv,N.ah.map aG.pv,l.map Path.pv,N.aq.map aQ.pv,N.aN,N.within,N.cap,())) (fun k hk rec=>?_) (fun rec=>?_) ?_ rfl).trans ?_
 ·have h1:decide ((k:Int)<(i:Int))=true:=by simp;omega
  have jn:k<l.length:=by omega
  have hd:decide ((l.map bY)[k]?=some (bY l[i]))=(decide (l[k].a=l[i].a)&&decide (l[k].b=l[i].b)&&decide (l[k].free=l[i].free)):=by rw[Bool.eq_iff_iff];simp[List.getElem?_eq_getElem jn,bY,and_assoc]
  rw[hd];unfold ll;dsimp only;rw[if_pos h1,ay,List.getElem?_map,List.getElem?_eq_getElem jn];simp only[Option.map_some,U,Hb,Hc,Hd,asInt,asBool,if_true,al (show k<9223372036854775807 by omega),eW,dw];rfl
 ·unfold ll;dsimp only;rw[if_neg (by simp)]
 ·have:=aR;omega
 ·rw[Aw _ _ (by simp;omega)];simp only[decide_eq_true_eq]
theorem O0(N:ag)(hn:N.stops.length≤64)(hl:N.paths.length≤4096):jD [N.pv]=some (res (cV N.paths N.stops.length).1 (cV N.paths N.stops.length).2):=by
 have hm:4096≤maxLen:=by decide
 simp only[jD,tK,pD,rn,rq,rr,ru,ry,rz,rA,rB,rC,U];generalize IB:N.paths=l at hl⊢;generalize N7:N.stops.length=n at hn⊢;have hlen:(N.stops.map Stop.pv).length=n:=by simpa using N7
 have hw:IntKind.i64.wrap ((n:Int)-1)=(n:Int)-1:=fx (by omega) (by omega);have RT:∀k,(hk:k<l.length)→∀rec,fq ca ((k:Int),N.stops.map Stop.pv,N.ae.map au.pv,N.runs.map bw.pv,N.ah.map aG.pv,l.map Path.pv,N.aq.map aQ.pv,N.aN,N.within,N.cap,()) rec=c8 (if dr l n k=0 then none else some (some (res k (dr l n k)))) (rec (((k+1:Nat):Int),N.stops.map Stop.pv,N.ae.map au.pv,N.runs.map bw.pv,N.ah.map aG.pv,l.map Path.pv,N.aq.map aQ.pv,N.aN,N.within,N.cap,())):=by
  intro k hk rec;have h1:decide ((k:Int)<((l.map Path.pv).length:Int))=true:=by simp;omega
  have pS:=EY N l hl k hk rec;unfold fq;dsimp only;rw[if_pos h1,ay,List.getElem?_map,List.getElem?_eq_getElem hk,hlen,hw];simp only[Option.map_some,U,Hb,Hc,M3,Hd,asInt,asBool,if_true,B7,bn,eW,pS,al (show k<9223372036854775807 by omega)];have hA:(!(decide (l[k].a≥0)&&decide (l[k].a≤(n:Int)-1))|| !(decide (l[k].b≥0)&&decide (l[k].b≤(n:Int)-1))||decide (l[k].a=l[k].b))=(decide (l[k].a<0)||decide (l[k].a≥(n:Int))||decide (l[k].b<0)||decide (l[k].b≥(n:Int))||decide (l[k].a=l[k].b)):=by rw[Bool.eq_iff_iff];simp only[Bool.or_eq_true,Bool.not_eq_true',Bool.and_eq_false_iff,decide_eq_true_eq,decide_eq_false_iff_not];omega
  have hB:(!(decide (l[k].bM≥1)&&decide (l[k].bM≤14400)))=(decide (l[k].bM<1)||decide (l[k].bM>14400)):=by rw[Bool.eq_iff_iff];simp only[Bool.or_eq_true,Bool.not_eq_true',Bool.and_eq_false_iff,decide_eq_true_eq,decide_eq_false_iff_not];omega
  rw[hA,hB];unfold dr;rw[List.getElem?_eq_getElem hk];simp only;generalize (decide (l[k].a<0)||decide (l[k].a≥(n:Int))||decide (l[k].b<0)||decide (l[k].b≥(n:Int))||decide (l[k].a=l[k].b))=A;generalize (decide (l[k].bM<1)||decide (l[k].bM>14400))=B;by_cases bO:bY l[k]∈(l.map bY).take k
  ·simp only[bO,if_true];cases A<;>cases B<;>rfl
  ·simp only[bO,if_false];cases A<;>cases B<;>rfl
 have hg:=hU (dr l n) l.length (fun i e=>res i e) (some (if lk l n=true then res 0 0 else res 0 18));have hR:some (res (cV l n).1 (cV l n).2)=if(bT (dr l n) l.length).2=0 then some (if lk l n=true then res 0 0 else res 0 18)else some (res (bT (dr l n) l.length).1 (bT (dr l n) l.length).2):=by
  unfold cV;by_cases h:(bT (dr l n) l.length).2=0
  ·rw[if_pos h,if_pos h];cases lk l n<;>rfl
  ·rw[if_neg h,if_neg h]
 rw[hR,←hg];by_cases hz:(bT (dr l n) l.length).2=0
 ·refine aX (fun k=>((k:Int),N.stops.map Stop.pv,N.ae.map au.pv,N.runs.map bw.pv,N.ah.map aG.pv,l.map Path.pv,N.aq.map aQ.pv,N.aN,N.within,N.cap,())) l.length _ RT (fun rec=>?_) ?_ rfl
  ·have hc:=(DN hn hl (Hf hz)).2;have sF:=Hh l n hn;unfold fq;dsimp only;rw[if_neg (by simp),hlen,hc];simp only[U,ab,if_true,List.length_map];unfold lk;by_cases RU:(gT l n).length=l.length
   ·rw[if_neg (by simp[kC,RU])];have hr:=mw (gT l n) l RU (some (res 0 18)) (some (res 0 0));have:some (if decide (gT l n=l)=true then res 0 0 else res 0 18)=if gT l n=l then some (res 0 0)else some (res 0 18):=by by_cases hc:gT l n=l<;>simp[hc]
    rw[this,←hr];refine aX (fun k=>((gT l n).map Path.pv,(k:Int),N.stops.map Stop.pv,N.ae.map au.pv,N.runs.map bw.pv,N.ah.map aG.pv,l.map Path.pv,N.aq.map aQ.pv,N.aN,N.within,N.cap,())) (gT l n).length _ (fun k hk rec=>?_) (fun rec=>?_) ?_ rfl
    ·have h1:decide ((k:Int)<(((gT l n).map Path.pv).length:Int))=true:=by simp;omega
     have jn:k<l.length:=by omega
     unfold pc;dsimp only;rw[if_pos h1,ay,List.getElem?_map,List.getElem?_eq_getElem hk,ay,List.getElem?_map,List.getElem?_eq_getElem jn];simp only[Option.map_some,U];rw[if_pos ⟨xi _,xi _⟩,Hi,al (by omega)];by_cases he:(gT l n)[k]=l[k]
     ·simp[he,c8]
     ·simp[he,c8,res]
    ·unfold pc;dsimp only;rw[if_neg (by simp)];rfl
    ·have:=aR;omega
   ·rw[if_pos (by simp[kC];omega)];rw[decide_eq_false (fun hc=>RU (by rw[hc]))];rfl
  ·have:=aR;omega
 ·have sU:=aX (body:=fq ca) (fun k=>((k:Int),N.stops.map Stop.pv,N.ae.map au.pv,N.runs.map bw.pv,N.ah.map aG.pv,l.map Path.pv,N.aq.map aQ.pv,N.aN,N.within,N.cap,())) l.length _ (fin:=fq ca ((l.length:Int),N.stops.map Stop.pv,N.ae.map au.pv,N.runs.map bw.pv,N.ah.map aG.pv,l.map Path.pv,N.aq.map aQ.pv,N.aN,N.within,N.cap,()) fun _=>none) RT (fun rec=>?_) (by have:=aR;omega) (s0:=(0,N.stops.map Stop.pv,N.ae.map au.pv,N.runs.map bw.pv,N.ah.map aG.pv,l.map Path.pv,N.aq.map aQ.pv,N.aN,N.within,N.cap,())) rfl
  ·rw[sU,hU,hU,if_neg hz,if_neg hz]
  ·unfold fq;dsimp only;rw[if_neg (by simp),if_neg (by simp)]
end Go.Ab.Tt
namespace Go.Ab.Tt
set_option maxRecDepth 100000
set_option linter.unusedVariables false
set_option linter.unusedSimpArgs false
def aU(x:bw):Bytes×Int×Int:=(x.id,x.day,x.inst)
def Hk(x:Bytes×Int×Int):PV:=.agg [.str x.1,.int .i64 x.2.1,.int .i64 x.2.2]
theorem RV(a b:Bytes×Int×Int):cA (Hk a).cells (Hk b).cells=decide (a=b):=by obtain⟨a1,a2,a3⟩:=a;obtain⟨b1,b2,b3⟩:=b;rw[Bool.eq_iff_iff];simp[Hk,PV.cells,cA,peq]
def iU(l:List bw)(stops ae:Int)(k:Nat):Int:=match l[k]? with
 |none=>0
 |some x=>if eN x.id=false then 12 else if(decide (x.dp< -1)||decide (x.inst<0))=true then 2 else if(decide (x.day<0)||decide (x.day>36524))=true then 11 else if(decide (x.bh<0)||decide (x.bh≥ae))=true then 9 else if(bk x.calls stops 0 3155932800).2=0 then(if aU x∈(l.map aU).take k then 6 else 0)else(bk x.calls stops 0 3155932800).2
def gb(l:List bw)(stops ae:Int):Int×Int:=if l.length>1024 then(0,5)else bT (iU l stops ae) l.length
theorem KJ(N:ag)(l:List bw)(hl:l.length≤maxLen∧∀y∈l,y.Ok)(k:Nat)(hk:k<l.length)(rec:OZ→Option PV):fM (l.map bw.pv,(l.length:Int),(k:Int),N.stops.map Stop.pv,N.ae.map au.pv,l.map bw.pv,N.ah.map aG.pv,N.paths.map Path.pv,N.aq.map aQ.pv,N.aN,N.within,N.cap,0,0,0,seen Hk ((l.map aU).take k),()) rec=c8 (if iU l N.stops.length N.ae.length k=0 then none else some (some (r3 2 k (iU l N.stops.length N.ae.length k)))) (rec (l.map bw.pv,(l.length:Int),((k+1:Nat):Int),N.stops.map Stop.pv,N.ae.map au.pv,l.map bw.pv,N.ah.map aG.pv,N.paths.map Path.pv,N.aq.map aQ.pv,N.aN,N.within,N.cap,0,0,0,seen Hk ((l.map aU).take (k+1)),())):=by
 have hm:=aW;have h1:decide ((k:Int)<(l.length:Int))=true:=by simp;omega
 have hO:=hl.2 _ (List.getElem_mem hk);have hid:=tV l[k].id hO.id;have gz:=nS l[k].calls N.stops.length 0 3155932800 hO.calls.1;simp only[res]at gz;have qt:eO (.agg [.str l[k].id,.int .i64 l[k].day,.int .i64 l[k].inst]) (.bool true) (seen Hk ((l.map aU).take k))=_:=mL RV (aU l[k]) ((l.map aU).take k);have rj:dK (.agg [.str l[k].id,.int .i64 l[k].day,.int .i64 l[k].inst]) (.bool false) (seen Hk ((l.map aU).take k))=_:=kD RV (aU l[k]) ((l.map aU).take k);unfold fM;dsimp only;rw[if_pos h1,ay,List.getElem?_map,List.getElem?_eq_getElem hk];simp only[Option.map_some,U,UQ,OV,OW,OX,UR,EW,bt,asInt,asBool,ab,if_true,List.length_map,hid,gz,bW,List.length_cons,List.length_nil,Nat.reduceAdd,List.getD_cons_zero,List.getD_cons_succ,bn,kC,qt,rj,Cb,M4,yB,xK,Ca,oT aU l k hk,al (show k<9223372036854775807 by omega)];unfold iU;rw[List.getElem?_eq_getElem hk];simp only;generalize (decide (l[k].dp< -1)||decide (l[k].inst<0))=A;generalize (decide (l[k].day<0)||decide (l[k].day>36524))=B;generalize (decide (l[k].bh<0)||decide (l[k].bh≥(N.ae.length:Int)))=C;generalize (bk l[k].calls N.stops.length 0 3155932800).2=e;cases eN l[k].id with
 |false=>rfl
 |true=>
  cases A with
  |true=>rfl
  |false=>
   cases B with
   |true=>rfl
   |false=>
    cases C with
    |true=>rfl
    |false=>
     simp only[Bool.not_true,Bool.false_eq_true,Bool.true_eq_false,if_false];by_cases he:e=0
     ·subst he;by_cases bO:aU l[k]∈(l.map aU).take k
      ·simp only[bO,if_true,decide_true,Bool.not_true,Bool.false_eq_true,if_false];rfl
      ·simp only[bO,if_true,decide_true,decide_false,Bool.not_true,Bool.false_eq_true,if_false];rfl
     ·simp only[he,if_false,if_true,decide_false,Bool.not_false];rfl
theorem EZ(N:ag)(hl:N.runs.length≤maxLen∧∀y∈N.runs,y.Ok):dm [N.pv]=some (prt 2 (gb N.runs N.stops.length N.ae.length)):=by
 have hm:=aW;simp only[dm,kZ,pD,rn,rq,rr,ru,ry,rz,rA,rB,rC,U,List.length_map];generalize IB:N.runs=l at hl⊢;unfold gb;by_cases sV:l.length>1024
 ·rw[if_pos (by simp;omega),if_pos sV];rfl
 ·rw[if_neg (by simp;omega),if_neg sV];have hR:some (prt 2 (bT (iU l N.stops.length N.ae.length) l.length))=if(bT (iU l N.stops.length N.ae.length) l.length).2=0 then some (r3 0 0 0)else some (r3 2 (bT (iU l N.stops.length N.ae.length) l.length).1 (bT (iU l N.stops.length N.ae.length) l.length).2):=by
   unfold prt;by_cases h:(bT (iU l N.stops.length N.ae.length) l.length).2=0
   ·rw[if_pos h,if_pos h]
   ·rw[if_neg h,if_neg h]
  rw[hR,←hU (iU l N.stops.length N.ae.length) l.length (fun i e=>r3 2 i e)];refine aX (fun k=>(l.map bw.pv,(l.length:Int),(k:Int),N.stops.map Stop.pv,N.ae.map au.pv,l.map bw.pv,N.ah.map aG.pv,N.paths.map Path.pv,N.aq.map aQ.pv,N.aN,N.within,N.cap,0,0,0,seen Hk ((l.map aU).take k),())) l.length _ (fun k hk rec=>KJ N l hl k hk rec) (fun rec=>?_) ?_ rfl
  ·unfold fM;dsimp only;rw[if_neg (by simp)];rfl
  ·have:=aR;omega
theorem KK(N:ag)(l:List bw)(hl:l.length≤maxLen)(i:Nat)(hi:i<l.length):ca.run nG ((i:Int),0,N.stops.map Stop.pv,N.ae.map au.pv,l.map bw.pv,N.ah.map aG.pv,N.paths.map Path.pv,N.aq.map aQ.pv,N.aN,N.within,N.cap,.int .i64 l[i].dp,.int .i64 l[i].day,.int .i64 l[i].inst,.str l[i].id,.int .i64 l[i].bh,.bool l[i].free,.bool l[i].oZ,.rs 5 (l[i].calls.map av.pv),())=if aU l[i]∈(l.map aU).take i then some (.int .i64 6)else some (.int .i64 0):=by
 have hm:=aW;refine(oW (fun k=>((i:Int),(k:Int),N.stops.map Stop.pv,N.ae.map au.pv,l.map bw.pv,N.ah.map aG.pv,N.paths.map Path.pv,N.aq.map aQ.pv,N.aN,N.within,N.cap,PV.int .i64 l[i].dp,PV.int .i64 l[i].day,PV.int .i64 l[i].inst,PV.str l[i].id,PV.int .i64 l[i].bh,PV.bool l[i].free,PV.bool l[i].oZ,PV.rs 5 (l[i].calls.map av.pv),())) i (fun k=>decide ((l.map aU)[k]?=some (aU l[i]))) (no:=some (.int .i64 6)) (fin:=some (.int .i64 0)) (fun k hk rec=>?_) (fun rec=>?_) ?_ rfl).trans ?_
 ·have h1:decide ((k:Int)<(i:Int))=true:=by simp;omega
  have jn:k<l.length:=by omega
  have hd:decide ((l.map aU)[k]?=some (aU l[i]))=(decide (l[k].id=l[i].id)&&decide (l[k].day=l[i].day)&&decide (l[k].inst=l[i].inst)):=by rw[Bool.eq_iff_iff];simp[List.getElem?_eq_getElem jn,aU,and_assoc]
  rw[hd];unfold nG;dsimp only;rw[if_pos h1,ay,List.getElem?_map,List.getElem?_eq_getElem jn];simp only[Option.map_some,U,OV,OW,OX,asInt,bt,if_true,al (show k<9223372036854775807 by omega),eW,dw]
 ·unfold nG;dsimp only;rw[if_neg (by simp)]
 ·have:=aR;omega
 ·rw[Aw _ _ (by simp;omega)];simp only[decide_eq_true_eq]
theorem US(N:ag)(hl:N.runs.length≤maxLen∧∀y∈N.runs,y.Ok)(k:Nat)(hk:k<N.runs.length):mM [N.pv,.int .i64 k]=some (.int .i64 (iU N.runs N.stops.length N.ae.length k)):=by
 have hm:=aW;have hO:=hl.2 _ (List.getElem_mem hk);simp only[mM,yz,pD,rn,rq,rr,ru,ry,rz,rA,rB,rC,U];generalize IB:N.runs=l at hl hk hO⊢;have hO':l[k].Ok:=by subst IB;exact hO
 have hid:=sn l[k].id hO'.id;have gz:=OU l[k].calls N.stops.length 0 3155932800 hO'.calls.1;have pS:=KK N l hl.1 k hk;simp only[asInt,if_true,U,ay,List.getElem?_map,List.getElem?_eq_getElem hk,Option.map_some,UQ,OV,OW,OX,UR,XV,XW,EW,bt,asBool,ab,List.length_map,hid,gz,B7,bn,kC,pS];unfold iU;rw[List.getElem?_eq_getElem hk];simp only;have hB:(!(decide (l[k].day≥0)&&decide (l[k].day≤36524)))=(decide (l[k].day<0)||decide (l[k].day>36524)):=by rw[Bool.eq_iff_iff];simp only[Bool.or_eq_true,Bool.not_eq_true',Bool.and_eq_false_iff,decide_eq_true_eq,decide_eq_false_iff_not];omega
 rw[hB];generalize (decide (l[k].dp< -1)||decide (l[k].inst<0))=A;generalize (decide (l[k].day<0)||decide (l[k].day>36524))=B;generalize (decide (l[k].bh<0)||decide (l[k].bh≥(N.ae.length:Int)))=C;generalize (bk l[k].calls N.stops.length 0 3155932800).2=e;cases eN l[k].id with
 |false=>rfl
 |true=>
  cases A with
  |true=>rfl
  |false=>
   cases B with
   |true=>rfl
   |false=>
    cases C with
    |true=>rfl
    |false=>
     simp only[Bool.not_true,Bool.false_eq_true,Bool.true_eq_false,if_false];by_cases he:e=0
     ·subst he;by_cases bO:aU l[k]∈(l.map aU).take k
      ·simp only[bO,if_true,decide_true,Bool.not_true,Bool.false_eq_true,if_false]
      ·simp only[bO,if_true,decide_true,Bool.not_true,Bool.false_eq_true,if_false]
     ·simp only[he,if_false,if_true,decide_false,Bool.not_false]
end Go.Ab.Tt
namespace Go.Ab.Tt
set_option maxRecDepth 100000
set_option linter.unusedVariables false
set_option linter.unusedSimpArgs false
def nx(p:List aG)(v:Int):Option Int:=p.foldl (fun o x=>if(x.stay&&decide (x.a=v))=true then some x.b else o) none
theorem XX(v:Int):nx [] v=none:=rfl
theorem pV(p:List aG)(x:aG)(v:Int):nx (p++[x]) v=if(x.stay&&decide (x.a=v))=true then some x.b else nx p v:=by unfold nx;rw[List.foldl_append];rfl
def it(f:Int→Option Int):Nat→Int→Option Int
 |0,v=>some v
 |m+1,v=>(f v).bind (it f m)
theorem M6(f:Int→Option Int)(m:Nat)(v:Int):it f (m+1) v=(it f m v).bind f:=by
 induction m generalizing v with
 |zero=>show(f v).bind (it f 0)=f v;cases h:f v<;>rfl
 |succ m ih=>
  show(f v).bind (it f (m+1))=((f v).bind (it f m)).bind f;cases h:f v with
  |none=>rfl
  |some w=>exact ih w
def lq(p:List aG)(a b:Int)(n:Nat):Bool:=(List.range n).any fun t=>decide (it (nx p) (t+1) a=some b)
def wh(f:Int→Option Int):Prop:=∃r:Int→Nat,∀v w,f v=some w→r w<r v
theorem KL:wh (nx []):=⟨fun _=>0,fun v w h=>by cases h⟩
variable{p:List aG}
theorem KM{v w:Int}(h:nx p v=some w):∃x∈p,x.stay=true∧x.a=v∧x.b=w:=by
 have key:∀n,n≤p.length→nx (p.take n) v=some w→∃x∈p,x.stay=true∧x.a=v∧x.b=w:=by
  intro n;induction n with
  |zero=>intro _ h;cases h
  |succ n ih=>
   intro hn h;have N7:n<p.length:=by omega
   rw[List.take_succ_eq_append_getElem N7,pV]at h;by_cases hc:(p[n].stay&&decide (p[n].a=v))=true
   ·rw[if_pos hc]at h;simp only[Bool.and_eq_true,decide_eq_true_eq]at hc;exact⟨p[n],List.getElem_mem N7,hc.1,hc.2,by simpa using h⟩
   ·rw[if_neg hc]at h;exact ih (by omega) h
 exact key p.length (Nat.le_refl _) (by rw[List.take_length];exact h)
theorem KN{f:Int→Option Int}(hf:wh f)(S:List Int)(hS:∀v w,f v=some w→v∈S):∀m v,it f m v≠none→m≤S.length:=by
 obtain⟨r,hr⟩:=hf;induction hn:S.length generalizing S f r with
 |zero=>
  intro m v h;cases m with
  |zero=>omega
  |succ m=>
   exfalso;cases XY:f v with
   |none=>exact h (by show(f v).bind _=none;rw[XY];rfl)
   |some w=>have:=hS v w XY;rw[List.length_eq_zero_iff.1 hn]at this;cases this
 |succ n ih=>
  intro m v h;cases m with
  |zero=>omega
  |succ m=>
   cases XY:f v with
   |none=>exact absurd (by show(f v).bind _=none;rw[XY];rfl) h
   |some w=>
    have hvS:=hS v w XY;let g:Int→Option Int:=fun x=>if x=v then none else f x;have hg:∀x y,g x=some y→r y<r x:=fun x y UT=>by
     by_cases hx:x=v
     ·simp[g,hx]at UT
     ·simp only[g,hx,if_false]at UT;exact hr x y UT
    have hgS:∀x y,g x=some y→x∈S.erase v:=fun x y UT=>by
     by_cases hx:x=v
     ·simp[g,hx]at UT
     ·simp only[g,hx,if_false]at UT;exact(List.mem_erase_of_ne hx).2 (hS x y UT)
    have hlen:(S.erase v).length=n:=by rw[List.length_erase_of_mem hvS];omega
    have Q6:∀k x,r x<r v→it g k x=it f k x:=by
     intro k;induction k with
     |zero=>intros;rfl
     |succ k W4=>
      intro x hx;have hxv:x≠v:=fun h=>by subst h;omega
      show(g x).bind (it g k)=(f x).bind (it f k);have:g x=f x:=by simp[g,hxv]
      rw[this];cases hfx:f x with
      |none=>rfl
      |some y=>exact W4 y (by have:=hr x y hfx;omega)
    have hw:it f m w≠none:=by intro hc;apply h;show(f v).bind (it f m)=none;rw[XY];exact hc
    have:=ih (S.erase v) hgS r hg hlen m w (by rw[Q6 m w (hr v w XY)];exact hw);omega
theorem E0(hp:wh (nx p)){m:Nat}(hm:p.length<m)(v:Int):it (nx p) m v=none:=by
 cases h:it (nx p) m v with
 |none=>rfl
 |some w=>have:=KN hp (p.map aG.a) (fun x y UT=>by obtain⟨l,h1,h2,h3,h4⟩:=KM UT;exact List.mem_map.2 ⟨l,h1,h3⟩) m v (by rw[h];exact fun h=>nomatch h);rw[List.length_map]at this;omega
theorem Hl(hp:wh (nx p))(x:aG)(h:x.stay=false∨(x.a≠x.b∧nx p x.a=none∧lq p x.b x.a (p.length+1)=false)):wh (nx (p++[x])):=by
 cases hs:x.stay with
 |false=>obtain⟨r,hr⟩:=hp;refine⟨r,fun v w M7=>hr v w ?_⟩;rw[pV,hs,Bool.false_and,if_neg (by simp)]at M7;exact M7
 |true=>
  rw[hs]at h;rcases h with h|⟨qM,hna,RW⟩
  ·cases h
  have CF:=hp;obtain⟨r,hr⟩:=hp;have yj:∀t,it (nx p) (t+1) x.b≠some x.a:=by
   intro t ht;by_cases br:t<p.length+1
   ·unfold lq at RW;rw[List.any_eq_false]at RW;exact RW t (by simpa using br) (by simpa using ht)
   ·rw[E0 CF (by omega)]at ht;cases ht
  let R:Int→Prop:=fun v=>∃t,it (nx p) t v=some x.a;have hRb:¬R x.b:=fun⟨t,ht⟩=>by
   cases t with
   |zero=>exact qM (by simpa[it]using ht.symm)
   |succ t=>exact yj t ht
  refine⟨fun v=>open Classical in if R v then r v+r x.b+1 else r v,fun v w M7=>?_⟩;rw[pV,hs,Bool.true_and]at M7;by_cases hv:x.a=v
  ·rw[if_pos (by simpa using hv)]at M7;simp only[Option.some.injEq]at M7;subst M7;have Zi:R v:=⟨0,by show some v=some x.a;rw[hv]⟩;show(open Classical in if R x.b then r x.b+r x.b+1 else r x.b)<(open Classical in if R v then r v+r x.b+1 else r v);rw[if_neg hRb,if_pos Zi];omega
  ·rw[if_neg (by simpa using hv)]at M7;have br:=hr v w M7;show(open Classical in if R w then r w+r x.b+1 else r w)<(open Classical in if R v then r v+r x.b+1 else r v);by_cases hw:R w
   ·have Zi:R v:=by obtain⟨t,ht⟩:=hw;exact⟨t+1,by show(nx p v).bind (it (nx p) t)=some x.a;rw[M7];exact ht⟩
    rw[if_pos hw,if_pos Zi];omega
   ·rw[if_neg hw];by_cases Zi:R v
    ·rw[if_pos Zi];omega
    ·rw[if_neg Zi];exact br
end Go.Ab.Tt
namespace Go.Ab.Tt
set_option maxRecDepth 100000
set_option linter.unusedVariables false
set_option linter.unusedSimpArgs false
def pW(a:Int):PV:=.int .i64 a
def cm(x:aG):Int×Int×Int×Int:=(x.a,x.ac,x.b,x.bc)
def Hm(x:Int×Int×Int×Int):PV:=.agg [.int .i64 x.1,.int .i64 x.2.1,.int .i64 x.2.2.1,.int .i64 x.2.2.2]
theorem RX(a b:Int×Int×Int×Int):cA (Hm a).cells (Hm b).cells=decide (a=b):=by obtain⟨a1,a2,a3,a4⟩:=a;obtain⟨b1,b2,b3,b4⟩:=b;rw[Bool.eq_iff_iff];simp[Hm,PV.cells,cA,peq]
def vH(p:List aG):List (Int×PV):=p.foldl (fun m x=>if x.stay=true then wj x.a (.int .i64 x.b) m else m) []
theorem wk(p:List aG)(x:aG):vH (p++[x])=if x.stay=true then wj x.a (.int .i64 x.b) (vH p)else vH p:=by unfold vH;rw[List.foldl_append];rfl
def KO(a:Int)(m:List (Int×PV)):Bool:=m.any fun x=>decide (a=x.1)
theorem M8(a:Int):∀m,sO (pW a) (sI pW m)=KO a m
 |[]=>rfl
 |(b,u)::r=>by have:=M8 a r;simp only[sI]at this;simp only[sI,List.map_cons,sO,KO,List.any_cons];rw[this];have:cA (pW a).cells (pW b).cells=decide (a=b):=xj a b;rw[this];rfl
theorem Hn(a b:Int)(v:PV):∀m,KO a (wj b v m)=(decide (a=b)||KO a m)
 |[]=>by simp[KO,wj]
 |(c,u)::r=>by
  have:=Hn a b v r;simp only[KO]at this⊢;by_cases h:b=c
  ·subst h;simp[wj]
  ·simp only[wj,h,if_false,List.any_cons,this];cases decide (a=c)<;>simp
theorem tW{A:Type}{P:List A→Prop}(h0:P [])(h1:∀p x,P p→P (p++[x]))(l:List A):P l:=by
 have key:∀n,n≤l.length→P (l.take n):=by
  intro n;induction n with
  |zero=>intro _;rw[List.take_zero];exact h0
  |succ n ih=>intro hn;rw[List.take_succ_eq_append_getElem (show n<l.length by omega)];exact h1 _ _ (ih (by omega))
 have:=key l.length (Nat.le_refl _);rw[List.take_length]at this;exact this
theorem O1(p:List aG)(v:Int):tX v (.int .i64 0) (vH p)=.int .i64 ((nx p v).getD 0):=by
 induction p using tW with
 |h0=>rfl
 |h1 p x ih=>
  rw[wk,pV];cases hs:x.stay with
  |false=>rw[if_neg (by simp),Bool.false_and,if_neg (by simp)];exact ih
  |true=>
   rw[if_pos rfl,yE,Bool.true_and];by_cases h:x.a=v
   ·rw[if_pos h.symm,if_pos (by simpa using h)];rfl
   ·rw[if_neg (fun hc=>h hc.symm),if_neg (by simpa using h)];exact ih
theorem RY(p:List aG)(v:Int):KO v (vH p)=(nx p v).isSome:=by
 induction p using tW with
 |h0=>rfl
 |h1 p x ih=>
  rw[wk,pV];cases hs:x.stay with
  |false=>rw[if_neg (by simp),Bool.false_and,if_neg (by simp)];exact ih
  |true=>
   rw[if_pos rfl,Hn,Bool.true_and];by_cases h:x.a=v
   ·rw[if_pos (by simpa using h)];simp[h]
   ·rw[if_neg (by simpa using h),ih];have:decide (v=x.a)=false:=by simpa using fun hc=>h hc.symm
    rw[this,Bool.false_or]
def mN(p:List aG):List (PV×PV):=sI pW (vH p)
theorem wm(p:List aG)(v:Int):dK (.int .i64 v) (.int .i64 0) (mN p)=.int .i64 ((nx p v).getD 0):=by have:=Cd (key:=pW) xj v (.int .i64 0) (vH p);rw[O1]at this;exact this
theorem yF(p:List aG)(v:Int):sO (.int .i64 v) (mN p)=(nx p v).isSome:=by have:=M8 v (vH p);rw[RY]at this;exact this
theorem KP(p:List aG)(x:aG):mN (p++[x])=if x.stay=true then eO (.int .i64 x.a) (.int .i64 x.b) (mN p)else mN p:=by
 have:=E1 (key:=pW) xj x.a (.int .i64 x.b) (vH p);unfold mN;rw[wk];by_cases h:x.stay=true
 ·rw[if_pos h,if_pos h];exact this.symm
 ·rw[if_neg h,if_neg h]
def jE(p:List aG):List Int:=(p.filter aG.stay).map aG.b
theorem KQ(p:List aG)(x:aG):jE (p++[x])=if x.stay=true then jE p++[x.b]else jE p:=by unfold jE;by_cases h:x.stay=true<;>simp[List.filter_append,List.filter_cons,h]
theorem O2(p:List aG)(v:Int):(nx p v).isSome=p.any fun y=>y.stay&&decide (y.a=v):=by
 induction p using tW with
 |h0=>rfl
 |h1 p x ih=>
  rw[pV,List.any_append,←ih];by_cases h:(x.stay&&decide (x.a=v))=true
  ·rw[if_pos h];simp only[List.any_cons,List.any_nil,h];simp
  ·rw[if_neg h];simp only[List.any_cons,List.any_nil,h];simp
theorem RZ(p:List aG)(v:Int):decide (v∈jE p)=p.any fun y=>y.stay&&decide (y.b=v):=by
 rw[Bool.eq_iff_iff,decide_eq_true_eq];simp only[jE,decide_eq_true_eq,List.mem_map,List.mem_filter,List.any_eq_true,Bool.and_eq_true];constructor
 ·rintro⟨x,⟨h1,h2⟩,h3⟩;exact⟨x,h1,h2,h3⟩
 ·rintro⟨x,h1,h2,h3⟩;exact⟨x,⟨h1,h2⟩,h3⟩
def XZ(f:Int→Option Int)(a b:Int)(t:Nat):Option (Option PV):=(it f (t+1) a).elim (some (some (.bool false))) fun v=>if v=b then some (some (.bool true))else none
theorem KS(f:Int→Option Int)(b:Int)(n:Nat):∀a,it f (n+1) a=none→c8 ((List.range n).findSome? (XZ f a b)) (some (.bool false))=some (.bool ((List.range (n+1)).any fun t=>decide (it f (t+1) a=some b))):=by
 induction n with
 |zero=>intro a h;simp[c8,h]
 |succ n ih=>
  intro a h;rw[List.range_succ_eq_map (n:=n+1),List.range_succ_eq_map (n:=n),List.findSome?_cons,List.any_cons];have h0:it f (0+1) a=f a:=by show(f a).bind (it f 0)=f a;cases hf:f a<;>rfl
  unfold XZ;rw[h0];cases hf:f a with
  |none=>
   have hz:∀t,it f (t+1) a=none:=fun t=>by show(f a).bind _=none;rw[hf];rfl
   simp only[Option.elim,c8,List.any_map,Function.comp_def,hz];simp
  |some v=>
   have hs:∀t,it f (t+1+1) a=it f (t+1) v:=fun t=>by show(f a).bind _=_;rw[hf];rfl
   by_cases hv:v=b
   ·subst hv;simp only[Option.elim,if_true,c8,decide_true,Bool.true_or]
   ·have hd:decide (some v=some b)=false:=by simpa using hv
    simp only[Option.elim,if_neg hv,hd,Bool.false_or];have:=ih v (by rw[←hs];exact h);rw[List.findSome?_map,List.any_map];simp only[Function.comp_def,Nat.succ_eq_add_one,hs];rw[←List.range_succ_eq_map];exact this
theorem KT(p:List aG)(hp:wh (nx p))(hl:p.length≤maxLen)(a b:Int):eT [.rm 3 ((mN p).map fun x=>x.fst) ((mN p).map fun x=>x.snd),.int .i64 a,.int .i64 b]=some (.bool (lq p a b (p.length+1))):=by
 have hz:((mN p).map fun x=>x.fst).zip ((mN p).map fun x=>x.snd)=mN p:=by
  generalize mN p=m;induction m with
  |nil=>rfl
  |cons x m ih=>simp only[List.map_cons,List.zip_cons_cons,ih]
 simp only[eT,qw,dP,if_true,asInt,U,hz,wm,yF];unfold lq;rw[←KS (nx p) b p.length a (E0 hp (by omega) a)];refine aX (fun t=>(PV.rm 3 ((mN p).map fun x=>x.fst) ((mN p).map fun x=>x.snd),b,(it (nx p) (t+1) a).getD 0,(it (nx p) (t+1) a).isSome,())) p.length _ (fun t ht rec=>?_) (fun rec=>?_) (by have:=aR;omega) ?_
 ·unfold je XZ;dsimp only;rw[M6 (nx p) (t+1) a];cases hv:it (nx p) (t+1) a with
  |none=>rfl
  |some v=>
   simp only[Option.isSome_some,Option.getD_some,if_true,eW,decide_eq_true_eq,Option.elim];by_cases UU:v=b
   ·rw[if_pos UU,if_pos UU];rfl
   ·rw[if_neg UU,if_neg UU];simp only[dP,if_true,hz,wm,yF,asInt,U,c8,Option.bind_some]
 ·unfold je;dsimp only;rw[E0 hp (by omega)];rfl
 ·show(_,b,(it (nx p) 1 a).getD 0,(it (nx p) 1 a).isSome,())=_;have:it (nx p) 1 a=nx p a:=by show(nx p a).bind _=_;cases nx p a<;>rfl
  rw[this]
def aB(runs:List bw)(a:Int):List av:=((runs[a.toNat]?).map bw.calls).getD []
def eY(cs:List av)(c:Int):Int:=((cs[c.toNat]?).map av.stop).getD 0
def tY(x:aG)(R:Int):Bool:= !(decide (x.a≥0)&&decide (x.a<R))|| !(decide (x.b≥0)&&decide (x.b<R))||decide (x.a=x.b)
def tZ(x:aG)(A B:Int):Bool:= !(decide (x.ac≥0)&&decide (x.ac<A))|| !(decide (x.bc≥0)&&decide (x.bc<B))
def pd(p:List aG)(x:aG)(A:Int):Bool:=x.stay&&(!decide (x.ac+1=A)|| !decide (x.bc=0)||(nx p x.a).isSome||decide (x.b∈jE p)||lq p x.b x.a (p.length+1))
def cC(runs:List bw)(l:List aG)(k:Nat):Int:=match l[k]? with
 |none=>0
 |some x=>if tY x runs.length=true then 9 else if tZ x (aB runs x.a).length (aB runs x.b).length=true then 9 else if eY (aB runs x.a) x.ac≠eY (aB runs x.b) x.bc then 13 else if pd (l.take k) x (aB runs x.a).length=true then 19 else if cm x∈(l.map cm).take k then 6 else 0
def gU(runs:List bw)(l:List aG):Int×Int:=if l.length>1024 then(0,5)else bT (cC runs l) l.length
theorem Ce(runs:List bw)(l:List aG)(k:Nat)(hk:k≤l.length)(h:∀j,j<k→cC runs l j=0):wh (nx (l.take k))∧∀x∈l.take k,0≤x.a:=by
 induction k with
 |zero=>rw[List.take_zero];exact⟨KL,fun x hx=>by cases hx⟩
 |succ k ih=>
  have jn:k<l.length:=by omega
  obtain⟨h1,h2⟩:=ih (by omega) fun j hj=>h j (by omega);have hz:=h k (by omega);unfold cC at hz;rw[List.getElem?_eq_getElem jn]at hz;simp only at hz;have hr:tY l[k] runs.length=false:=by
   cases hr:tY l[k] runs.length with
   |false=>rfl
   |true=>rw[hr,if_pos rfl]at hz;cases hz
  have hs:pd (l.take k) l[k] (aB runs l[k].a).length=false:=by
   cases hs:pd (l.take k) l[k] (aB runs l[k].a).length with
   |false=>rfl
   |true=>
    rw[hs]at hz;split at hz
    ·cases hz
    ·split at hz
     ·cases hz
     ·split at hz
      ·cases hz
      ·rw[if_pos rfl]at hz;cases hz
  unfold tY at hr;simp only[Bool.or_eq_false_iff,Bool.not_eq_false',Bool.and_eq_true,decide_eq_true_eq,decide_eq_false_iff_not]at hr;rw[List.take_succ_eq_append_getElem jn];refine⟨Hl h1 l[k] ?_,fun x hx=>?_⟩
  ·unfold pd at hs;cases sU:l[k].stay with
   |false=>exact Or.inl rfl
   |true=>
    rw[sU,Bool.true_and]at hs;simp only[Bool.or_eq_false_iff]at hs;refine Or.inr ⟨hr.2,?_,hs.2⟩;have:=hs.1.1.2;cases hn:nx (l.take k) l[k].a with
    |none=>rfl
    |some w=>rw[hn]at this;cases this
  ·rcases List.mem_append.1 hx with hx|hx
   ·exact h2 x hx
   ·rw[List.mem_singleton]at hx;subst hx;exact hr.1.1.1
theorem xl(runs:List bw)(a:Int)(h:0≤a∧a<(runs.length:Int)):∃r∈runs,aZ (runs.map bw.pv) a=some r.pv∧aB runs a=r.calls:=by
 obtain⟨n,rfl⟩:=Int.eq_ofNat_of_zero_le h.1;have hn:n<runs.length:=by omega
 refine⟨runs[n],List.getElem_mem hn,?_,?_⟩
 ·rw[ay,List.getElem?_map,List.getElem?_eq_getElem hn];rfl
 ·unfold aB;rw[Int.toNat_natCast,List.getElem?_eq_getElem hn];rfl
theorem u7(cs:List av)(c:Int)(h:0≤c∧c<(cs.length:Int)):∃r,aZ (cs.map av.pv) c=some r∧cell r 0=.int .i64 (eY cs c):=by
 obtain⟨n,rfl⟩:=Int.eq_ofNat_of_zero_le h.1;have hn:n<cs.length:=by omega
 refine⟨cs[n].pv,?_,?_⟩
 ·rw[ay,List.getElem?_map,List.getElem?_eq_getElem hn];rfl
 ·unfold eY;rw[Int.toNat_natCast,List.getElem?_eq_getElem hn];rfl
end Go.Ab.Tt
namespace Go.Ab.Tt
set_option maxRecDepth 100000
set_option linter.unusedVariables false
set_option linter.unusedSimpArgs false
theorem ua{runs:List bw}(h:∀y∈runs,y.Ok)(a:Int):(aB runs a).length≤maxLen:=by
 unfold aB;cases hr:runs[a.toNat]? with
 |none=>simp
 |some r=>exact(h r (List.mem_of_getElem? hr)).calls.1
theorem Ho(N:ag)(runs:List bw)(hr:∀y∈runs,y.Ok)(l:List aG)(hl:l.length≤maxLen)(k:Nat)(hk:k<l.length)(Ad:∀j,j<k→cC runs l j=0)(rec:TY0→Option PV):fy (l.map aG.pv,(l.length:Int),(k:Int),N.stops.map Stop.pv,N.ae.map au.pv,runs.map bw.pv,l.map aG.pv,N.paths.map Path.pv,N.aq.map aQ.pv,N.aN,N.within,N.cap,0,0,0,mN (l.take k),seen pW (jE (l.take k)),seen Hm ((l.map cm).take k),()) rec=c8 (if cC runs l k=0 then none else some (some (r3 3 k (cC runs l k)))) (rec (l.map aG.pv,(l.length:Int),((k+1:Nat):Int),N.stops.map Stop.pv,N.ae.map au.pv,runs.map bw.pv,l.map aG.pv,N.paths.map Path.pv,N.aq.map aQ.pv,N.aN,N.within,N.cap,0,0,0,mN (l.take (k+1)),seen pW (jE (l.take (k+1))),seen Hm ((l.map cm).take (k+1)),())):=by
 have hm:=aW;have h1:decide ((k:Int)<(l.length:Int))=true:=by simp;omega
 obtain⟨aaG,_⟩:=Ce runs l k (by omega) Ad;have hlen:(l.take k).length=k:=by simp;omega
 have yG:=KT (l.take k) aaG (by omega) l[k].b l[k].a;have qt:eO (.agg [.int .i64 l[k].a,.int .i64 l[k].ac,.int .i64 l[k].b,.int .i64 l[k].bc]) (.bool true) (seen Hm ((l.map cm).take k))=_:=mL RX (cm l[k]) ((l.map cm).take k);have rj:dK (.agg [.int .i64 l[k].a,.int .i64 l[k].ac,.int .i64 l[k].b,.int .i64 l[k].bc]) (.bool false) (seen Hm ((l.map cm).take k))=_:=kD RX (cm l[k]) ((l.map cm).take k);have aaH:eO (.int .i64 l[k].b) (.bool true) (seen pW (jE (l.take k)))=_:=mL (key:=pW) xj l[k].b (jE (l.take k));have X0:dK (.int .i64 l[k].b) (.bool false) (seen pW (jE (l.take k)))=_:=kD (key:=pW) xj l[k].b (jE (l.take k));have hsn:l.take (k+1)=l.take k++[l[k]]:=List.take_succ_eq_append_getElem hk;unfold fy;dsimp only;rw[if_pos h1,ay,List.getElem?_map,List.getElem?_eq_getElem hk,hsn,KP,KQ,oT cm l k hk];simp only[Option.map_some,U,DM,M0,link2,M1,Ha,asInt,asBool,if_true,List.length_map,wg,bn,eW];unfold cC;rw[List.getElem?_eq_getElem hk];simp only;have hR:(!(decide (l[k].a≥0)&&decide (l[k].a<(runs.length:Int)))|| !(decide (l[k].b≥0)&&decide (l[k].b<(runs.length:Int)))||decide (l[k].a=l[k].b))=tY l[k] runs.length:=rfl;rw[hR];cases hb:tY l[k] runs.length with
 |true=>simp only[if_true,Cb,U,M4,yB,xK,Ca];rfl
 |false=>
  unfold tY at hb;simp only[Bool.or_eq_false_iff,Bool.not_eq_false',Bool.and_eq_true,decide_eq_true_eq,decide_eq_false_iff_not]at hb;obtain⟨ra,hra,hia,VT⟩:=xl runs l[k].a ⟨hb.1.1.1,hb.1.1.2⟩;obtain⟨rb,IH,VP,M9⟩:=xl runs l[k].b ⟨hb.1.2.1,hb.1.2.2⟩;have hA:=ua hr l[k].a;rw[hia,VP];simp only[U,EW,ab,if_true,List.length_map,←VT,←M9,wg,asBool,bn];have hC:(!(decide (l[k].ac≥0)&&decide (l[k].ac<((aB runs l[k].a).length:Int)))|| !(decide (l[k].bc≥0)&&decide (l[k].bc<((aB runs l[k].b).length:Int))))=tZ l[k] (aB runs l[k].a).length (aB runs l[k].b).length:=rfl;rw[hC];cases B2:tZ l[k] (aB runs l[k].a).length (aB runs l[k].b).length with
  |true=>simp only[if_true,Cb,U,M4,yB,xK,Ca];rfl
  |false=>
   unfold tZ at B2;simp only[Bool.or_eq_false_iff,Bool.not_eq_false',Bool.and_eq_true,decide_eq_true_eq]at B2;obtain⟨ka,Xa,hsa⟩:=u7 (aB runs l[k].a) l[k].ac B2.1;obtain⟨kb,hkb,Xe⟩:=u7 (aB runs l[k].b) l[k].bc B2.2;have hw:IntKind.i64.wrap (l[k].ac+1)=l[k].ac+1:=fx (by omega) (by omega);simp only[Bool.false_eq_true,if_false,Xa,hkb,U,hsa,Xe,wm,yF,rj,X0,qt,aaH,asInt,asBool,if_true,yG,hw,hlen,bn,dw,kC,Cb,M4,yB,xK,Ca,al (show k<9223372036854775807 by omega)];have hS:(l[k].stay&&(!decide (l[k].ac+1=((aB runs l[k].a).length:Int))|| !decide (l[k].bc=0)||(nx (l.take k) l[k].a).isSome||decide (l[k].b∈jE (l.take k))||lq (l.take k) l[k].b l[k].a (k+1)))=pd (l.take k) l[k] (aB runs l[k].a).length:=by unfold pd;rw[hlen]
   rw[hS];generalize pd (l.take k) l[k] (aB runs l[k].a).length=S;by_cases sU:eY (aB runs l[k].a) l[k].ac=eY (aB runs l[k].b) l[k].bc
   ·simp only[sU,decide_true,Bool.not_true,Bool.false_eq_true,if_false,ne_eq,not_true];cases S with
    |true=>rfl
    |false=>
     by_cases bO:cm l[k]∈(l.map cm).take k
     ·simp only[bO,decide_true,if_true,Bool.false_eq_true,if_false];rfl
     ·simp only[bO,decide_false,if_true,Bool.false_eq_true,if_false];cases l[k].stay<;>rfl
   ·simp only[sU,decide_false,Bool.not_false,if_true,ne_eq,not_false_eq_true];rfl
theorem CT(N:ag)(hr:N.runs.length≤maxLen∧∀y∈N.runs,y.Ok)(hl:N.ah.length≤maxLen):cv [N.pv]=some (prt 3 (gU N.runs N.ah)):=by
 have hm:=aW;simp only[cv,j8,pD,rn,rq,rr,ru,ry,rz,rA,rB,rC,U,List.length_map];generalize IB:N.ah=l at hl⊢;generalize qL:N.runs=runs at hr⊢;unfold gU;by_cases sV:l.length>1024
 ·rw[if_pos (by simp;omega),if_pos sV];rfl
 ·rw[if_neg (by simp;omega),if_neg sV];have hR:some (prt 3 (bT (cC runs l) l.length))=if(bT (cC runs l) l.length).2=0 then some (r3 0 0 0)else some (r3 3 (bT (cC runs l) l.length).1 (bT (cC runs l) l.length).2):=by
   unfold prt;by_cases h:(bT (cC runs l) l.length).2=0
   ·rw[if_pos h,if_pos h]
   ·rw[if_neg h,if_neg h]
  rw[hR,←hU (cC runs l) l.length (fun i e=>r3 3 i e)];refine vG (fun k=>(l.map aG.pv,(l.length:Int),(k:Int),N.stops.map Stop.pv,N.ae.map au.pv,runs.map bw.pv,l.map aG.pv,N.paths.map Path.pv,N.aq.map aQ.pv,N.aN,N.within,N.cap,0,0,0,mN (l.take k),seen pW (jE (l.take k)),seen Hm ((l.map cm).take k),())) l.length _ (fun k hk Ad rec=>Ho N runs hr.2 l hl k hk (fun j hj=>?_) rec) (fun _ rec=>?_) (by have:=aR;omega) rfl
  ·have:=Ad j hj;by_cases h0:cC runs l j=0
   ·exact h0
   ·rw[if_neg h0]at this;cases this
  ·unfold fy;dsimp only;rw[if_neg (by simp)];rfl
theorem O3(N:ag)(i:Nat)(hi:i<N.ah.length)(hl:N.ah.length≤maxLen)(hp:∀x∈N.ah.take i,0≤x.a)(a b:Int)(hb:0≤b):jF [N.pv,.int .i64 i,.int .i64 a,.int .i64 b]=some (.bool (lq (N.ah.take i) a b (i+1))):=by
 have hm:=aW;simp only[jF,tJ,pD,rn,rq,rr,ru,ry,rz,rA,rB,rC,U];simp only[asInt,if_true,U];generalize IB:N.ah=l at hl hi hp⊢;have aeC:nx (l.take i) (-1)=none:=by
  cases hn:nx (l.take i) (-1)with
  |none=>rfl
  |some w=>obtain⟨x,hx,_,hxa,_⟩:=KM hn;have:=hp x hx;omega
 have th:∀t,(nx (l.take i) ((it (nx (l.take i)) t a).getD (-1))).getD (-1)=(it (nx (l.take i)) (t+1) a).getD (-1):=by
  intro t;rw[M6];cases it (nx (l.take i)) t a with
  |none=>simp only[Option.getD_none,Option.bind_none,aeC]
  |some v=>rfl
 have pS:∀(c:Int)(t:Nat)fb,ca.run (lr fb) ((i:Int),c,b,(t:Int),-1,0,N.stops.map Stop.pv,N.ae.map au.pv,N.runs.map bw.pv,l.map aG.pv,N.paths.map Path.pv,N.aq.map aQ.pv,N.aN,N.within,N.cap,())=if(nx (l.take i) c).getD (-1)=b then some (.bool true)else fb ((i:Int),(nx (l.take i) c).getD (-1),b,IntKind.i64.wrap ((t:Int)+1),N.stops.map Stop.pv,N.ae.map au.pv,N.runs.map bw.pv,l.map aG.pv,N.paths.map Path.pv,N.aq.map aQ.pv,N.aN,N.within,N.cap,()):=by
  intro c t fb;refine bK (fun k=>((i:Int),c,b,(t:Int),(nx (l.take k) c).getD (-1),(k:Int),N.stops.map Stop.pv,N.ae.map au.pv,N.runs.map bw.pv,l.map aG.pv,N.paths.map Path.pv,N.aq.map aQ.pv,N.aN,N.within,N.cap,())) i (fun k hk rec=>?_) (fun rec=>?_) (by have:=aR;omega) (by rw[List.take_zero,XX];rfl)
  ·have h1:decide ((k:Int)<(i:Int))=true:=by simp;omega
   have jn:k<l.length:=by omega
   unfold lr;dsimp only;rw[if_pos h1,ay,List.getElem?_map,List.getElem?_eq_getElem jn,List.take_succ_eq_append_getElem jn,pV];simp only[Option.map_some,U,DM,link2,Ha,asInt,asBool,if_true,dw,eW,al (show k<9223372036854775807 by omega)];by_cases hc:(l[k].stay&&decide (l[k].a=c))=true
   ·rw[if_pos hc,if_pos hc];rfl
   ·rw[if_neg hc,if_neg hc]
  ·unfold lr;dsimp only;rw[if_neg (by simp)];simp only[eW,decide_eq_true_eq]
 unfold lq;have lY:ca.run (lu ca) ((i:Int),a,b,0,N.stops.map Stop.pv,N.ae.map au.pv,N.runs.map bw.pv,l.map aG.pv,N.paths.map Path.pv,N.aq.map aQ.pv,N.aN,N.within,N.cap,())=if((List.range (i+1)).any fun t=>decide (it (nx (l.take i)) (t+1) a=some b))=true then some (PV.bool true)else some (PV.bool false):=by
  refine oW (fun t:Nat=>((i:Int),(it (nx (l.take i)) t a).getD (-1),b,(t:Int),N.stops.map Stop.pv,N.ae.map au.pv,N.runs.map bw.pv,l.map aG.pv,N.paths.map Path.pv,N.aq.map aQ.pv,N.aN,N.within,N.cap,())) (i+1) (fun t=>decide (it (nx (l.take i)) (t+1) a=some b)) (no:=some (PV.bool true)) (fin:=some (PV.bool false)) (fun t ht rec=>?_) (fun rec=>?_) (by have:=aR;omega) rfl
  ·have h1:decide ((t:Int)≤(i:Int))=true:=by simp;omega
   unfold lu;dsimp only;rw[if_pos h1,pS,th,al (by omega)];cases hv:it (nx (l.take i)) (t+1) a with
   |none=>rw[if_neg (by simp only[Option.getD_none];omega),if_neg (by simp)]
   |some v=>
    by_cases UU:v=b
    ·rw[if_pos (by simpa using UU),if_pos (by simpa using UU)]
    ·rw[if_neg (by simpa using UU),if_neg (by simpa using UU)]
  ·unfold lu;dsimp only;rw[if_neg (by simp;omega)]
 rw[lY];cases(List.range (i+1)).any fun t=>decide (it (nx (l.take i)) (t+1) a=some b)<;>rfl
theorem O4(l:List aG)(P:aG→Bool)(k:Nat)(hk:k≤l.length):((List.range k).any fun j=>(l[j]?).elim false P)=(l.take k).any P:=by
 induction k with
 |zero=>rfl
 |succ k ih=>
  have jn:k<l.length:=by omega
  rw[List.range_succ,List.any_append,ih (by omega),List.take_succ_eq_append_getElem jn,List.any_append];simp only[List.any_cons,List.any_nil,List.getElem?_eq_getElem jn,Option.elim]
theorem R0(N:ag)(hr:N.runs.length≤maxLen∧∀y∈N.runs,y.Ok)(hl:N.ah.length≤maxLen)(k:Nat)(hk:k<N.ah.length)(Ad:∀j,j<k→cC N.runs N.ah j=0):lv [N.pv,.int .i64 k]=some (.int .i64 (cC N.runs N.ah k)):=by
 have hm:=aW;obtain⟨_,eo⟩:=Ce N.runs N.ah k (by omega) Ad;have yG:=fun a b hb=>O3 N k hk hl eo a b hb;have hE:=yA N;simp only[lv,v8,pD,rn,rq,rr,ru,ry,rz,rA,rB,rC,U];rw[←yA N]at yG;generalize IB:N.ah=l at hl hk eo yG⊢;generalize qL:N.runs=runs at hr yG⊢;have hw0:IntKind.i64.wrap ((runs.length:Int)-1)=(runs.length:Int)-1:=fx (by omega) (by omega);simp only[asInt,if_true,U,ay,List.getElem?_map,List.getElem?_eq_getElem hk,Option.map_some,DM,M0,link2,M1,Ha,asBool,List.length_map,hw0,B7,bn,eW];unfold cC;rw[List.getElem?_eq_getElem hk];simp only;have hR:(!(decide (l[k].a≥0)&&decide (l[k].a≤(runs.length:Int)-1))|| !(decide (l[k].b≥0)&&decide (l[k].b≤(runs.length:Int)-1))||decide (l[k].a=l[k].b))=tY l[k] runs.length:=by unfold tY;rw[Bool.eq_iff_iff];simp only[Bool.or_eq_true,Bool.not_eq_true',Bool.and_eq_false_iff,decide_eq_true_eq,decide_eq_false_iff_not];omega
 rw[hR];cases hb:tY l[k] runs.length with
 |true=>simp only[if_true]
 |false=>
  unfold tY at hb;simp only[Bool.or_eq_false_iff,Bool.not_eq_false',Bool.and_eq_true,decide_eq_true_eq,decide_eq_false_iff_not]at hb;obtain⟨ra,hra,hia,VT⟩:=xl runs l[k].a ⟨hb.1.1.1,hb.1.1.2⟩;obtain⟨rb,IH,VP,M9⟩:=xl runs l[k].b ⟨hb.1.2.1,hb.1.2.2⟩;have hA:=ua hr.2 l[k].a;have hB:=ua hr.2 l[k].b;rw[hia,VP];simp only[U,EW,ab,if_true,List.length_map,←VT,←M9];have hwA:IntKind.i64.wrap (((aB runs l[k].a).length:Int)-1)=((aB runs l[k].a).length:Int)-1:=fx (by omega) (by omega);have hwB:IntKind.i64.wrap (((aB runs l[k].b).length:Int)-1)=((aB runs l[k].b).length:Int)-1:=fx (by omega) (by omega);simp only[hwA,hwB,B7,asBool,U,bn];have hC:(!(decide (l[k].ac≥0)&&decide (l[k].ac≤((aB runs l[k].a).length:Int)-1))|| !(decide (l[k].bc≥0)&&decide (l[k].bc≤((aB runs l[k].b).length:Int)-1)))=tZ l[k] (aB runs l[k].a).length (aB runs l[k].b).length:=by unfold tZ;rw[Bool.eq_iff_iff];simp only[Bool.or_eq_true,Bool.not_eq_true',Bool.and_eq_false_iff,decide_eq_true_eq,decide_eq_false_iff_not];omega
  rw[hC];cases B2:tZ l[k] (aB runs l[k].a).length (aB runs l[k].b).length with
  |true=>simp only[if_true,Bool.false_eq_true,if_false]
  |false=>
   unfold tZ at B2;simp only[Bool.or_eq_false_iff,Bool.not_eq_false',Bool.and_eq_true,decide_eq_true_eq]at B2;obtain⟨ka,Xa,hsa⟩:=u7 (aB runs l[k].a) l[k].ac B2.1;obtain⟨kb,hkb,Xe⟩:=u7 (aB runs l[k].b) l[k].bc B2.2;simp only[Bool.false_eq_true,if_false,Xa,hkb,U,hsa,Xe,asInt,asBool,if_true,bn,dw,kC];by_cases sU:eY (aB runs l[k].a) l[k].ac=eY (aB runs l[k].b) l[k].bc
   ·simp only[sU,decide_true,Bool.not_true,Bool.false_eq_true,if_false,ne_eq,not_true];have aaI:ca.run my ((k:Int),0,N.stops.map Stop.pv,N.ae.map au.pv,runs.map bw.pv,l.map aG.pv,N.paths.map Path.pv,N.aq.map aQ.pv,N.aN,N.within,N.cap,.int .i64 l[k].a,.int .i64 l[k].ac,.int .i64 l[k].b,.int .i64 l[k].bc,.bool l[k].stay,())=if cm l[k]∈(l.map cm).take k then some (.int .i64 6)else some (.int .i64 0):=by
     refine(oW (fun j=>((k:Int),(j:Int),N.stops.map Stop.pv,N.ae.map au.pv,runs.map bw.pv,l.map aG.pv,N.paths.map Path.pv,N.aq.map aQ.pv,N.aN,N.within,N.cap,PV.int .i64 l[k].a,PV.int .i64 l[k].ac,PV.int .i64 l[k].b,PV.int .i64 l[k].bc,PV.bool l[k].stay,())) k (fun j=>decide ((l.map cm)[j]?=some (cm l[k]))) (no:=some (.int .i64 6)) (fin:=some (.int .i64 0)) (fun j hj rec=>?_) (fun rec=>?_) (by have:=aR;omega) rfl).trans ?_
     ·have h1:decide ((j:Int)<(k:Int))=true:=by simp;omega
      have F1:j<l.length:=by omega
      have hd:decide ((l.map cm)[j]?=some (cm l[k]))=(decide (l[j].a=l[k].a)&&decide (l[j].ac=l[k].ac)&&decide (l[j].b=l[k].b)&&decide (l[j].bc=l[k].bc)):=by rw[Bool.eq_iff_iff];simp[List.getElem?_eq_getElem F1,cm,and_assoc]
      rw[hd];unfold my;dsimp only;rw[if_pos h1,ay,List.getElem?_map,List.getElem?_eq_getElem F1];simp only[Option.map_some,U,DM,M0,link2,M1,asInt,if_true,al (show j<9223372036854775807 by omega),eW,dw]
     ·unfold my;dsimp only;rw[if_neg (by simp)]
     ·rw[Aw _ _ (by simp;omega)];simp only[decide_eq_true_eq]
    have aeD:ca.run (mz ca) ((k:Int),0,N.stops.map Stop.pv,N.ae.map au.pv,runs.map bw.pv,l.map aG.pv,N.paths.map Path.pv,N.aq.map aQ.pv,N.aN,N.within,N.cap,.int .i64 l[k].a,.int .i64 l[k].ac,.int .i64 l[k].b,.int .i64 l[k].bc,.bool l[k].stay,())=if(l[k].stay&&((nx (l.take k) l[k].a).isSome||decide (l[k].b∈jE (l.take k))))=true then some (.int .i64 19)else if(l[k].stay&&lq (l.take k) l[k].b l[k].a (k+1))=true then some (.int .i64 19)else if cm l[k]∈(l.map cm).take k then some (.int .i64 6)else some (.int .i64 0):=by
     refine(oW (fun j=>((k:Int),(j:Int),N.stops.map Stop.pv,N.ae.map au.pv,runs.map bw.pv,l.map aG.pv,N.paths.map Path.pv,N.aq.map aQ.pv,N.aN,N.within,N.cap,PV.int .i64 l[k].a,PV.int .i64 l[k].ac,PV.int .i64 l[k].b,PV.int .i64 l[k].bc,PV.bool l[k].stay,())) k (fun j=>(l[j]?).elim false fun y=>l[k].stay&&y.stay&&(decide (y.a=l[k].a)||decide (y.b=l[k].b))) (no:=some (.int .i64 19)) (fin:=if(l[k].stay&&lq (l.take k) l[k].b l[k].a (k+1))=true then some (.int .i64 19)else if cm l[k]∈(l.map cm).take k then some (.int .i64 6)else some (.int .i64 0)) (fun j hj rec=>?_) (fun rec=>?_) (by have:=aR;omega) rfl).trans ?_
     ·have h1:decide ((j:Int)<(k:Int))=true:=by simp;omega
      have F1:j<l.length:=by omega
      rw[List.getElem?_eq_getElem F1];unfold mz;dsimp only;rw[if_pos h1,ay,List.getElem?_map,List.getElem?_eq_getElem F1];simp only[Option.map_some,U,DM,link2,Ha,asInt,asBool,if_true,al (show j<9223372036854775807 by omega),eW,dw,bn,Option.elim];rfl
     ·unfold mz;dsimp only;rw[if_neg (by simp),aaI];have:=yG l[k].b l[k].a (by have:=hb.1.1.1;omega);simp only[asBool,asInt,if_true,U,this,dw]
     ·rw[O4 l _ k (by omega)];have Xz:((l.take k).any fun y=>l[k].stay&&y.stay&&(decide (y.a=l[k].a)||decide (y.b=l[k].b)))=(l[k].stay&&((nx (l.take k) l[k].a).isSome||decide (l[k].b∈jE (l.take k)))):=by
       rw[O2,RZ];cases l[k].stay with
       |false=>simp
       |true=>
        rw[Bool.eq_iff_iff];simp only[Bool.true_and,Bool.or_eq_true,List.any_eq_true,Bool.and_eq_true,decide_eq_true_eq];constructor
        ·rintro⟨x,h1,h2,h3|h3⟩
         ·exact Or.inl ⟨x,h1,h2,h3⟩
         ·exact Or.inr ⟨x,h1,h2,h3⟩
        ·rintro(⟨x,h1,h2,h3⟩|⟨x,h1,h2,h3⟩)
         ·exact⟨x,h1,h2,Or.inl h3⟩
         ·exact⟨x,h1,h2,Or.inr h3⟩
      rw[Xz]
    rw[aeD];have hlen:(l.take k).length=k:=by simp;omega
    have hac:decide (l[k].ac=((aB runs l[k].a).length:Int)-1)=decide (l[k].ac+1=((aB runs l[k].a).length:Int)):=by rw[Bool.eq_iff_iff];simp only[decide_eq_true_eq];omega
    rw[hac];unfold pd;rw[hlen];generalize (!decide (l[k].ac+1=((aB runs l[k].a).length:Int)))=X1;generalize (!decide (l[k].bc=0))=X2;generalize (nx (l.take k) l[k].a).isSome=X3;generalize decide (l[k].b∈jE (l.take k))=X4;generalize lq (l.take k) l[k].b l[k].a (k+1)=X5;by_cases bO:cm l[k]∈(l.map cm).take k
    ·simp only[bO,if_true];cases l[k].stay<;>cases X1<;>cases X2<;>cases X3<;>cases X4<;>cases X5<;>rfl
    ·simp only[bO,if_false];cases l[k].stay<;>cases X1<;>cases X2<;>cases X3<;>cases X4<;>cases X5<;>rfl
   ·simp only[sU,decide_false,Bool.not_false,if_true,ne_eq,not_false_eq_true,Bool.false_eq_true,if_false]
end Go.Ab.Tt
namespace Go.Ab.Tt
set_option maxRecDepth 100000
set_option linter.unusedVariables false
set_option linter.unusedSimpArgs false
def dS(N:ag):Int×Int×Int:=
 if(gN N.stops).2=0 then
  if(fo N.ae).2=0 then
   if(gb N.runs N.stops.length N.ae.length).2=0 then
    if(gU N.runs N.ah).2=0 then
     if(cV N.paths N.stops.length).2=0 then if(dH N.aq N.aN N.within N.cap).2=0 then(0,0,0)else(5,dH N.aq N.aN N.within N.cap)
     else(4,cV N.paths N.stops.length)
    else(3,gU N.runs N.ah)
   else(2,gb N.runs N.stops.length N.ae.length)
  else(1,fo N.ae)
 else(0,gN N.stops)
def fX(x:Int×Int×Int):PV:=.bm [.int .i64 x.1,.int .i64 x.2.1,.int .i64 x.2.2]
theorem r3E(p i e:Int):PV.agg [cell (r3 p i e) 0,cell (r3 p i e) 1,cell (r3 p i e) 2]=r3 p i e:=rfl
theorem We(p i e:Int):PV.agg [.int .i64 p,.int .i64 i,.int .i64 e]=r3 p i e:=rfl
theorem ub(p i e q j f:Int):cL [.rs 3 [r3 p i e,r3 q j f]]=some (if e=0 then(if f=0 then r3 0 0 0 else r3 q j f)else r3 p i e):=by
 simp only[cL,qE,ab,if_true,U];have h0:=aX (body:=gn) (fun k=>([r3 p i e,r3 q j f],(2:Int),(k:Int),0,0,0,())) 2 (fun k=>if k=0 then(if e=0 then none else some (some (r3 p i e)))else(if f=0 then none else some (some (r3 q j f)))) (fin:=some (r3 0 0 0)) (fun k hk rec=>?_) (fun rec=>?_) (by decide) (s0:=([r3 p i e,r3 q j f],(2:Int),0,0,0,0,())) rfl
 ·refine h0.trans ?_;have:List.range 2=[0,1]:=rfl;rw[this];by_cases he:e=0
  ·by_cases hf:f=0<;>simp[he,hf,c8]
  ·simp[he,c8]
 ·have h2:k=0∨k=1:=by omega
  rcases h2 with rfl|rfl
  ·unfold gn;dsimp only;rw[if_pos (by simp),ay];simp only[List.getElem?_cons_zero,U,Ca,asInt,if_true,kC,r3E,al (show 0<9223372036854775807 by omega)];by_cases he:e=0
   ·simp only[he,decide_true,Bool.not_true,Bool.false_eq_true,if_false,if_true];rfl
   ·simp only[he,decide_false,Bool.not_false,if_false,if_true];rfl
  ·unfold gn;dsimp only;rw[if_pos (by simp),ay];simp only[List.getElem?_cons_succ,List.getElem?_cons_zero,U,Ca,asInt,if_true,kC,r3E,al (show 1<9223372036854775807 by omega)];by_cases he:f=0
   ·simp only[he,decide_true,Bool.not_true,Bool.false_eq_true,if_false,if_true];rfl
   ·simp only[he,decide_false,Bool.not_false,if_false,if_true];rfl
 ·unfold gn;dsimp only;rw[if_neg (by simp)];rfl
theorem KU(p:Int)(x:Int×Int):prt p x=if x.2=0 then r3 0 0 0 else r3 p x.1 x.2:=rfl
theorem yH{l:List Stop}(h:(gN l).2=0):l.length≤64:=by
 unfold gN at h;by_cases sV:l.length>64
 ·rw[if_pos sV]at h;cases h
 ·omega
theorem zH(a b:Int):(a==b)=decide (a=b):=eW a b
theorem Cf(N:ag)(h:N.Ok)(hp:N.paths.length≤4096):dY [N.pv]=some (fX (dS N)):=by
 have hs:=OR N.stops h.stops;have hr:=KD N.ae h.ae;have hu:=EZ N h.runs;have hl:=CT N h.runs h.ah.1;have hf:=KF N.aq N.aN N.within N.cap h.aq;unfold uY at hf;simp only[dY,qy,pD,rn,rq,rr,ru,ry,rz,rA,rB,rC,U,yA];simp only[hs,hr,hf,hu,hl,U,res,bW,List.length_cons,List.length_nil,Nat.reduceAdd,if_true,List.getD_cons_zero,List.getD_cons_succ,Cb,M4,We,ub];unfold dS;by_cases h1:(gN N.stops).2=0
 ·have Zf:=CR N (yH h1) hp;simp only[Zf,U,h1,if_true];by_cases h2:(fo N.ae).2=0
  ·simp only[h2,if_true];rw[KU 2,KU 3,KU 4];by_cases h3:(gb N.runs N.stops.length N.ae.length).2=0
   ·simp only[h3,if_true];by_cases h4:(gU N.runs N.ah).2=0
    ·simp only[h4,if_true];by_cases h5:(cV N.paths N.stops.length).2=0
     ·simp only[h5,if_true];by_cases h6:(dH N.aq N.aN N.within N.cap).2=0
      ·simp only[h6,if_true,M4,We,yB,xK,Ca,asInt,U,ub,zH,decide_true,decide_false,Bool.false_eq_true,fX]
      ·simp only[h6,if_true,if_false,M4,We,yB,xK,Ca,asInt,U,ub,zH,decide_true,decide_false,Bool.false_eq_true,fX]
     ·simp only[h5,if_true,if_false,M4,We,yB,xK,Ca,asInt,U,ub,zH,decide_true,decide_false,Bool.false_eq_true,fX]
    ·simp only[h4,if_true,if_false,M4,We,yB,xK,Ca,asInt,U,ub,zH,decide_true,decide_false,Bool.false_eq_true,fX]
   ·simp only[h3,if_true,if_false,M4,We,yB,xK,Ca,asInt,U,ub,zH,decide_true,decide_false,Bool.false_eq_true,fX]
  ·simp only[h2,if_true,if_false,M4,We,yB,xK,Ca,asInt,U,ub,zH,decide_true,decide_false,Bool.false_eq_true,fX]
 ·simp only[h1,if_true,if_false,M4,We,yB,xK,Ca,asInt,U,ub,zH,decide_true,decide_false,Bool.false_eq_true,fX]
theorem E2(N:ag)(h:N.Ok)(hn:N.stops.length≤64)(hp:N.paths.length≤4096):ca.run lx (0,N.stops.map Stop.pv,N.ae.map au.pv,N.runs.map bw.pv,N.ah.map aG.pv,N.paths.map Path.pv,N.aq.map aQ.pv,N.aN,N.within,N.cap,())=some (fX (if(bT (cC N.runs N.ah) N.ah.length).2=0 then
  if(cV N.paths N.stops.length).2=0 then if(dH N.aq N.aN N.within N.cap).2=0 then(0,0,0)else(5,dH N.aq N.aN N.within N.cap)
  else(4,cV N.paths N.stops.length)
 else(3,bT (cC N.runs N.ah) N.ah.length))):=by
 have hm:=aW
 have QO:=h.ah.1
 have Zf:=O0 N hn hp
 have hf:=OT N.aq N.aN N.within N.cap h.aq
 unfold uY at hf
 have hg:=hU (cC N.runs N.ah) N.ah.length (fun i e=>fX (3,i,e)) (some (fX (if(cV N.paths N.stops.length).2=0 then if(dH N.aq N.aN N.within N.cap).2=0 then(0,0,0)else(5,dH N.aq N.aN N.within N.cap)else(4,cV N.paths N.stops.length))))
 have hR:(if(bT (cC N.runs N.ah) N.ah.length).2=0 then(some (fX (if(cV N.paths N.stops.length).2=0 then if(dH N.aq N.aN N.within N.cap).2=0 then(0,0,0)else(5,dH N.aq N.aN N.within N.cap)else(4,cV N.paths N.stops.length))))else some (fX (3,(bT (cC N.runs N.ah) N.ah.length).1,(bT (cC N.runs N.ah) N.ah.length).2)))=some (fX (if(bT (cC N.runs N.ah) N.ah.length).2=0 then
   if(cV N.paths N.stops.length).2=0 then if(dH N.aq N.aN N.within N.cap).2=0 then(0,0,0)else(5,dH N.aq N.aN N.within N.cap)
   else(4,cV N.paths N.stops.length)
  else(3,bT (cC N.runs N.ah) N.ah.length))):=by
  by_cases hz:(bT (cC N.runs N.ah) N.ah.length).2=0
  ·rw[if_pos hz,if_pos hz]
  ·rw[if_neg hz,if_neg hz]
 rw[←hR,←hg]
 refine vG (fun k=>((k:Int),N.stops.map Stop.pv,N.ae.map au.pv,N.runs.map bw.pv,N.ah.map aG.pv,N.paths.map Path.pv,N.aq.map aQ.pv,N.aN,N.within,N.cap,())) N.ah.length _ (fun k hk Ad rec=>?_) (fun _ rec=>?_) (by have:=aR;omega) rfl
 ·have aaJ:∀j,j<k→cC N.runs N.ah j=0:=fun j hj=>by
   have:=Ad j hj;by_cases h0:cC N.runs N.ah j=0
   ·exact h0
   ·rw[if_neg h0]at this;cases this
  have UA:=R0 N h.runs QO k hk aaJ;have h1:decide ((k:Int)<((N.ah.map aG.pv).length:Int))=true:=by simp;omega
  unfold lx;dsimp only;rw[if_pos h1,yA,UA];simp only[U,asInt,if_true,kC,al (show k<9223372036854775807 by omega)];by_cases he:cC N.runs N.ah k=0
  ·simp only[he,decide_true,Bool.not_true,Bool.false_eq_true,if_false,if_true];rfl
  ·simp only[he,decide_false,Bool.not_false,if_false,if_true];rfl
 ·unfold lx;dsimp only;rw[if_neg (by simp),yA,Zf];simp only[U,res,bW,List.length_cons,List.length_nil,Nat.reduceAdd,if_true,List.getD_cons_zero,List.getD_cons_succ,asInt,kC,hf];by_cases h5:(cV N.paths N.stops.length).2=0
  ·simp only[h5,decide_true,Bool.not_true,Bool.false_eq_true,if_false,if_true];by_cases h6:(dH N.aq N.aN N.within N.cap).2=0
   ·simp only[h6,decide_true,Bool.not_true,Bool.false_eq_true,if_false,if_true,fX]
   ·simp only[h6,decide_false,Bool.not_false,Bool.false_eq_true,if_false,if_true,fX]
  ·simp only[h5,decide_false,Bool.not_false,Bool.false_eq_true,if_false,if_true,fX]
theorem O5(N:ag)(h:N.Ok)(hp:N.paths.length≤4096):jG [N.pv]=some (fX (dS N)):=by
 have hm:=aW;have cG:4096≤maxLen:=by decide
 have hs:=OS N.stops h.stops;have hr:=KE N.ae h.ae;simp only[jG,tN,pD,rn,rq,rr,ru,ry,rz,rA,rB,rC,U];simp only[hs,hr,U,res,bW,List.length_cons,List.length_nil,Nat.reduceAdd,if_true,List.getD_cons_zero,List.getD_cons_succ,asInt,kC];unfold dS;by_cases h1:(gN N.stops).2=0
 ·have sF:=E2 N h (yH h1) hp;simp only[h1,decide_true,Bool.not_true,Bool.false_eq_true,if_false,if_true];by_cases h2:(fo N.ae).2=0
  ·simp only[h2,decide_true,Bool.not_true,Bool.false_eq_true,if_false,if_true];unfold gb;by_cases sV:N.runs.length>1024
   ·rw[if_pos (by simp;omega),if_pos sV];rfl
   ·rw[if_neg (by simp;omega),if_neg sV];generalize hE:iU N.runs N.stops.length N.ae.length=E;generalize hF:(if(gU N.runs N.ah).2=0 then
     if(cV N.paths N.stops.length).2=0 then if(dH N.aq N.aN N.within N.cap).2=0 then((0:Int),(0:Int),(0:Int))else(5,dH N.aq N.aN N.within N.cap)
     else(4,cV N.paths N.stops.length)
    else(3,gU N.runs N.ah))=F
    have hg:=hU E N.runs.length (fun i e=>fX (2,i,e)) (some (fX F));have hR:(if(bT E N.runs.length).2=0 then some (fX F)else some (fX (2,(bT E N.runs.length).1,(bT E N.runs.length).2)))=some (fX (if(bT E N.runs.length).2=0 then F else(2,bT E N.runs.length))):=by
     by_cases hz:(bT E N.runs.length).2=0
     ·rw[if_pos hz,if_pos hz]
     ·rw[if_neg hz,if_neg hz]
    rw[←hR,←hg];refine aX (fun k=>((k:Int),N.stops.map Stop.pv,N.ae.map au.pv,N.runs.map bw.pv,N.ah.map aG.pv,N.paths.map Path.pv,N.aq.map aQ.pv,N.aN,N.within,N.cap,())) N.runs.length _ (fun k hk rec=>?_) (fun rec=>?_) (by have:=aR;omega) rfl
    ·have zX:=US N h.runs k hk;rw[hE]at zX;have h1:decide ((k:Int)<((N.runs.map bw.pv).length:Int))=true:=by simp;omega
     unfold pe;dsimp only;rw[if_pos h1,yA,zX];simp only[U,asInt,if_true,kC,al (show k<9223372036854775807 by omega)];by_cases he:E k=0
     ·simp only[he,decide_true,Bool.not_true,Bool.false_eq_true,if_false,if_true];rfl
     ·simp only[he,decide_false,Bool.not_false,if_false,if_true];rfl
    ·unfold pe;dsimp only;rw[if_neg (by simp),←hF];unfold gU;by_cases FY:N.ah.length>1024
     ·rw[if_pos (by simp;omega),if_pos FY];rfl
     ·rw[if_neg (by simp;omega),if_neg FY,sF]
  ·simp only[h2,decide_false,Bool.not_false,Bool.false_eq_true,if_false,if_true,fX]
 ·simp only[h1,decide_false,Bool.not_false,Bool.false_eq_true,if_false,if_true,fX]
end Go.Ab.Tt
namespace Go.Ab.Tt
set_option maxRecDepth 100000
set_option linter.unusedVariables false
set_option linter.unusedSimpArgs false
theorem KV{N:ag}(h:(dS N).2.2=0):∀k,k<N.runs.length→iU N.runs N.stops.length N.ae.length k=0:=by
 unfold dS at h;by_cases h1:(gN N.stops).2=0
 ·rw[if_pos h1]at h;by_cases h2:(fo N.ae).2=0
  ·rw[if_pos h2]at h;by_cases h3:(gb N.runs N.stops.length N.ae.length).2=0
   ·unfold gb at h3;by_cases sV:N.runs.length>1024
    ·rw[if_pos sV]at h3;cases h3
    ·rw[if_neg sV]at h3;exact(ma _ _).1 h3
   ·rw[if_neg h3]at h;exact absurd h h3
  ·rw[if_neg h2]at h;exact absurd h h2
 ·rw[if_neg h1]at h;exact absurd h h1
theorem uc{N:ag}(h:(dS N).2.2=0):∀r∈N.runs,(bk r.calls N.stops.length 0 3155932800).2=0:=by
 intro r hr;obtain⟨k,hk,rfl⟩:=List.getElem_of_mem hr;have:=KV h k hk;unfold iU at this;rw[List.getElem?_eq_getElem hk]at this;simp only at this;by_cases hc:(bk N.runs[k].calls N.stops.length 0 3155932800).2=0
 ·exact hc
 ·rw[if_neg hc]at this;split at this
  ·cases this
  ·split at this
   ·cases this
   ·split at this
    ·cases this
    ·split at this
     ·cases this
     ·exact absurd this hc
theorem ud{l:List av}{n a b:Int}(h:(bk l n a b).2=0):2≤l.length∧l.length≤32:=by
 unfold bk at h;by_cases hc:(decide ((l.length:Int)<2)||decide ((l.length:Int)>32))=true
 ·rw[if_pos hc]at h;cases h
 ·simp only[Bool.or_eq_true,decide_eq_true_eq,not_or]at hc;omega
theorem zI{l:List av}{n a b:Int}(h:(bk l n a b).2=0):∀k,k<l.length→mr l n a b k=0:=by
 unfold bk at h;by_cases hc:(decide ((l.length:Int)<2)||decide ((l.length:Int)>32))=true
 ·rw[if_pos hc]at h;cases h
 ·rw[if_neg hc]at h;exact(ma _ _).1 h
theorem pf{c:av}{p:Option av}{n a b:Int}(h:lh c p n a b=0):c.arr≤c.dep∧a≤c.arr∧c.dep≤b∧∀q,p=some q→q.dep≤c.arr:=by
 unfold lh at h;cases p with
 |none=>
  dsimp only at h;by_cases hA:(decide (c.stop<0)||decide (c.stop≥n))=true
  ·rw[if_pos hA]at h;cases h
  ·rw[if_neg hA,if_neg (by simp)]at h;by_cases hC:(decide (c.arr<a)||decide (c.arr>c.dep)||decide (c.dep>b)||false)=true
   ·rw[if_pos hC]at h;cases h
   ·simp only[Bool.or_eq_true,decide_eq_true_eq,not_or]at hC;exact⟨by omega,by omega,by omega,fun q hq=>by cases hq⟩
 |some r=>
  dsimp only at h;by_cases hA:(decide (c.stop<0)||decide (c.stop≥n))=true
  ·rw[if_pos hA]at h;cases h
  ·rw[if_neg hA]at h;by_cases hB:decide (r.stop=c.stop)=true
   ·rw[if_pos hB]at h;cases h
   ·rw[if_neg hB]at h;by_cases hC:(decide (c.arr<a)||decide (c.arr>c.dep)||decide (c.dep>b)||decide (c.arr<r.dep))=true
    ·rw[if_pos hC]at h;cases h
    ·simp only[Bool.or_eq_true,decide_eq_true_eq,not_or]at hC;exact⟨by omega,by omega,by omega,fun q hq=>by cases hq;omega⟩
end Go.Ab.Tt
namespace Go.Ab.Tt
set_option maxRecDepth 100000
set_option linter.unusedVariables false
set_option linter.unusedSimpArgs false
theorem Stop.peq(x y:Stop):cA [cell x.pv 0,cell x.pv 1,cell x.pv 2,cell x.pv 3] [cell y.pv 0,cell y.pv 1,cell y.pv 2,cell y.pv 3]=decide (x=y):=by cases x;cases y;rw[Bool.eq_iff_iff];simp[cell,Stop.pv,PV.cells,cA,Ab.peq]
theorem au.peq(x y:au):cA [cell x.pv 0,cell x.pv 1,cell x.pv 2] [cell y.pv 0,cell y.pv 1,cell y.pv 2]=decide (x=y):=by cases x;cases y;rw[Bool.eq_iff_iff];simp[cell,au.pv,PV.cells,cA,Ab.peq]
theorem av.peq(x y:av):cA [cell x.pv 0,cell x.pv 1,cell x.pv 2,cell x.pv 3,cell x.pv 4] [cell y.pv 0,cell y.pv 1,cell y.pv 2,cell y.pv 3,cell y.pv 4]=decide (x=y):=by cases x;cases y;rw[Bool.eq_iff_iff];simp[cell,av.pv,PV.cells,cA,Ab.peq]
theorem aG.peq(x y:aG):cA [cell x.pv 0,cell x.pv 1,cell x.pv 2,cell x.pv 3,cell x.pv 4] [cell y.pv 0,cell y.pv 1,cell y.pv 2,cell y.pv 3,cell y.pv 4]=decide (x=y):=by cases x;cases y;rw[Bool.eq_iff_iff];simp[cell,aG.pv,PV.cells,cA,Ab.peq]
theorem Path.peq(x y:Path):cA [cell x.pv 0,cell x.pv 1,cell x.pv 2,cell x.pv 3] [cell y.pv 0,cell y.pv 1,cell y.pv 2,cell y.pv 3]=decide (x=y):=by cases x;cases y;rw[Bool.eq_iff_iff];simp[cell,Path.pv,PV.cells,cA,Ab.peq]
theorem aQ.peq(x y:aQ):cA [cell x.pv 0,cell x.pv 1,cell x.pv 2,cell x.pv 3,cell x.pv 4,cell x.pv 5] [cell y.pv 0,cell y.pv 1,cell y.pv 2,cell y.pv 3,cell y.pv 4,cell y.pv 5]=decide (x=y):=by cases x;cases y;rw[Bool.eq_iff_iff];simp[cell,aQ.pv,PV.cells,cA,Ab.peq]
theorem pX{a b:Nat}:((a:Int) !=(b:Int))= !decide (a=b):=by rw[Bool.eq_iff_iff];simp;omega
theorem E3{c:Prop}[Decidable c]:(if c then some (PV.bool true)else some (PV.bool false))=some (PV.bool (decide c)):=by by_cases h:c<;>simp[h]
theorem pF(a b:List av)(ha:a.length≤maxLen):cg [.rs 5 (a.map av.pv),.rs 5 (b.map av.pv)]=some (.bool (decide (a=b))):=by
 have hm:=aW;simp only[cg,gL,ab,if_true,U,List.length_map];by_cases h:a.length=b.length
 ·rw[if_neg (by rw[pX];simp[h])];refine(aX (fun k=>(a.map av.pv,b.map av.pv,(a.length:Int),(k:Int),())) a.length (fun k=>if a[k]?=b[k]? then none else some (some (PV.bool false))) (fun k hk rec=>?_) (fin:=some (PV.bool true)) (fun rec=>?_) (by have:=aR;omega) rfl).trans ?_
  ·have h1:decide ((k:Int)<(a.length:Int))=true:=by simp;omega
   have jn:k<b.length:=by omega
   unfold fB;dsimp only;try rw[List.length_map]
   rw[if_pos h1,ay,ay,List.getElem?_map,List.getElem?_map,List.getElem?_eq_getElem hk,List.getElem?_eq_getElem jn];simp only[Option.map_some,U];rw[if_pos ⟨rfl,rfl⟩,av.peq,al (by omega)];by_cases he:a[k]=b[k]
   ·simp[he,c8]
   ·simp[he,c8]
  ·unfold fB;dsimp only;rw[if_neg (by simp)]
  ·exact(mw a b h (some (PV.bool false)) (some (PV.bool true))).trans E3
 ·rw[if_pos (by rw[pX];simp[h])];have:a≠b:=fun e=>h (by rw[e]);simp[this]
theorem E4(a b:List av)(ha:a.length≤maxLen):fN [.rs 5 (a.map av.pv),.rs 5 (b.map av.pv)]=some (.bool (decide (a=b))):=by
 have hm:=aW;simp only[fN,ni,ab,if_true,U,List.length_map];by_cases h:a.length=b.length
 ·rw[if_neg (by rw[pX];simp[h])];refine(aX (fun k=>(a.map av.pv,b.map av.pv,(k:Int),())) a.length (fun k=>if a[k]?=b[k]? then none else some (some (PV.bool false))) (fun k hk rec=>?_) (fin:=some (PV.bool true)) (fun rec=>?_) (by have:=aR;omega) rfl).trans ?_
  ·have h1:decide ((k:Int)<(a.length:Int))=true:=by simp;omega
   have jn:k<b.length:=by omega
   unfold ke;dsimp only;try rw[List.length_map]
   rw[if_pos h1,ay,ay,List.getElem?_map,List.getElem?_map,List.getElem?_eq_getElem hk,List.getElem?_eq_getElem jn];simp only[Option.map_some,U];rw[if_pos ⟨rfl,rfl⟩,av.peq,al (by omega)];by_cases he:a[k]=b[k]
   ·simp[he,c8]
   ·simp[he,c8]
  ·unfold ke;dsimp only;rw[if_neg (by simp)]
  ·exact(mw a b h (some (PV.bool false)) (some (PV.bool true))).trans E3
 ·rw[if_pos (by rw[pX];simp[h])];have:a≠b:=fun e=>h (by rw[e]);simp[this]
def ue(l:List aQ)(d w c:Int):PV:=.agg [.rs 6 (l.map aQ.pv),.int .i64 d,.int .i64 w,.int .i64 c]
theorem nH(a b:List aQ)(d1 w1 c1 d2 w2 c2:Int)(ha:a.length≤maxLen):fO [ue a d1 w1 c1,ue b d2 w2 c2]=some (.bool (decide (d1=d2)&&decide (w1=w2)&&decide (c1=c2)&&decide (a=b))):=by
 have hm:=aW;have f0:∀l d w c,asAgg 4 (ue l d w c)=some ():=fun _ _ _ _=>rfl;have f1:∀l d w c,cell (ue l d w c) 0=.rs 6 (l.map aQ.pv):=fun _ _ _ _=>rfl;have f2:∀l d w c,cell (ue l d w c) 1=.int .i64 d:=fun _ _ _ _=>rfl;have f3:∀l d w c,cell (ue l d w c) 2=.int .i64 w:=fun _ _ _ _=>rfl;have f4:∀l d w c,cell (ue l d w c) 3=.int .i64 c:=fun _ _ _ _=>rfl;simp only[fO,nj,f0,f1,f2,f3,f4,ab,asInt,if_true,U,List.length_map,pX,kC,bn];by_cases h:a.length=b.length
 ·by_cases e1:d1=d2
  ·by_cases e2:w1=w2
   ·by_cases e3:c1=c2
    ·rw[if_neg (by simp[h,e1,e2,e3])];simp only[e1,e2,e3,decide_true,Bool.true_and];refine(aX (fun k=>((k:Int),a.map aQ.pv,d2,w2,c2,b.map aQ.pv,d2,w2,c2,())) a.length (fun k=>if a[k]?=b[k]? then none else some (some (PV.bool false))) (fun k hk rec=>?_) (fin:=some (PV.bool true)) (fun rec=>?_) (by have:=aR;omega) rfl).trans ?_
     ·have h1:decide ((k:Int)<(a.length:Int))=true:=by simp;omega
      have jn:k<b.length:=by omega
      unfold kg;dsimp only;try rw[List.length_map]
      rw[if_pos h1,ay,ay,List.getElem?_map,List.getElem?_map,List.getElem?_eq_getElem hk,List.getElem?_eq_getElem jn];simp only[Option.map_some,U];rw[if_pos ⟨rfl,rfl⟩,aQ.peq,al (by omega)];by_cases he:a[k]=b[k]
      ·simp[he,c8]
      ·simp[he,c8]
     ·unfold kg;dsimp only;rw[if_neg (by simp)]
     ·exact(mw a b h (some (PV.bool false)) (some (PV.bool true))).trans E3
    ·rw[if_pos (by simp[e3])];simp[e3]
   ·rw[if_pos (by simp[e2])];simp[e2]
  ·rw[if_pos (by simp[e1])];simp[e1]
 ·rw[if_pos (by
   have h':¬((a.length:Int)=(b.length:Int)):=by omega
   simp[h'])]
  have:a≠b:=fun e=>h (by rw[e]);simp[this]
theorem Na(x y:bw):decide (x=y)=(decide (x.dp=y.dp)&&decide (x.day=y.day)&&decide (x.inst=y.inst)&&decide (x.id=y.id)&&decide (x.bh=y.bh)&&decide (x.free=y.free)&&decide (x.oZ=y.oZ)&&decide (x.calls=y.calls)):=by cases x;cases y;rw[Bool.eq_iff_iff];simp[and_assoc]
theorem pY(a b:List bw)(ha:a.length≤maxLen)(hc:∀x∈a,x.calls.length≤maxLen):gp [.rs 8 (a.map bw.pv),.rs 8 (b.map bw.pv)]=some (.bool (decide (a=b))):=by
 have hm:=aW;simp only[gp,oN,ab,if_true,U,List.length_map];by_cases h:a.length=b.length
 ·rw[if_neg (by rw[pX];simp[h])];refine(aX (fun k=>(a.map bw.pv,b.map bw.pv,(k:Int),())) a.length (fun k=>if a[k]?=b[k]? then none else some (some (PV.bool false))) (fun k hk rec=>?_) (fin:=some (PV.bool true)) (fun rec=>?_) (by have:=aR;omega) rfl).trans ?_
  ·have h1:decide ((k:Int)<(a.length:Int))=true:=by simp;omega
   have jn:k<b.length:=by omega
   have gz:=E4 a[k].calls b[k].calls (hc _ (List.getElem_mem hk));unfold ly;dsimp only;rw[List.length_map,if_pos h1,ay,ay,List.getElem?_map,List.getElem?_map,List.getElem?_eq_getElem hk,List.getElem?_eq_getElem jn];simp only[Option.map_some,U,UQ,OV,OW,OX,UR,XV,XW,EW,asInt,bt,asBool,ab,if_true,gz,bn,kC,eW,al (show k<9223372036854775807 by omega)];have hd:=Na a[k] b[k];by_cases he:a[k]=b[k]
   ·simp[he,c8]
   ·rw[if_pos,if_neg (by simpa using he)]
    ·rfl
    ·rw[decide_eq_false he]at hd;revert hd;generalize decide (a[k].dp=b[k].dp)=x1;generalize decide (a[k].day=b[k].day)=x2;generalize decide (a[k].inst=b[k].inst)=x3;generalize decide (a[k].id=b[k].id)=x4;generalize decide (a[k].bh=b[k].bh)=x5;generalize decide (a[k].free=b[k].free)=x6;generalize decide (a[k].oZ=b[k].oZ)=x7;generalize decide (a[k].calls=b[k].calls)=x8;revert x1 x2 x3 x4 x5 x6 x7 x8;decide
  ·unfold ly;dsimp only;rw[if_neg (by simp)]
  ·exact(mw a b h (some (PV.bool false)) (some (PV.bool true))).trans E3
 ·rw[if_pos (by rw[pX];simp[h])];have:a≠b:=fun e=>h (by rw[e]);simp[this]
def eqN(A B:ag):Bool:=decide (A.stops=B.stops)&&decide (A.ae=B.ae)&&decide (A.ah=B.ah)&&decide (A.paths=B.paths)&&decide (A.runs=B.runs)&&(decide (A.aN=B.aN)&&decide (A.within=B.within)&&decide (A.cap=B.cap)&&decide (A.aq=B.aq))
theorem R1(A:ag):eqN A A=true:=by simp[eqN]
def KW(A B:ag):Bool:=decide (A.runs=B.runs)&&(decide (A.aN=B.aN)&&decide (A.within=B.within)&&decide (A.cap=B.cap)&&decide (A.aq=B.aq))
theorem O6(A B:ag)(hA:A.Ok)(h:A.paths.length=B.paths.length):ca.run (gq) (0,A.stops.map Stop.pv,A.ae.map au.pv,A.runs.map bw.pv,A.ah.map aG.pv,A.paths.map Path.pv,A.aq.map aQ.pv,A.aN,A.within,A.cap,B.stops.map Stop.pv,B.ae.map au.pv,B.runs.map bw.pv,B.ah.map aG.pv,B.paths.map Path.pv,B.aq.map aQ.pv,B.aN,B.within,B.cap,())=if A.paths=B.paths then some (.bool (KW A B))else some (.bool false):=by
 have hm:=aW;have hl:=hA.paths.1;have e1:=pY A.runs B.runs hA.runs.1 (fun x hx=>(hA.runs.2 x hx).calls.1);have e2:=nH A.aq B.aq A.aN A.within A.cap B.aN B.within B.cap hA.aq.1;unfold ue at e2;generalize tE:(some (.bool (KW A B)):Option PV)=fin;generalize ha:A.paths=a at h hl⊢;generalize hb:B.paths=b at h⊢;refine(aX (fun k=>((k:Int),A.stops.map Stop.pv,A.ae.map au.pv,A.runs.map bw.pv,A.ah.map aG.pv,a.map Path.pv,A.aq.map aQ.pv,A.aN,A.within,A.cap,B.stops.map Stop.pv,B.ae.map au.pv,B.runs.map bw.pv,B.ah.map aG.pv,b.map Path.pv,B.aq.map aQ.pv,B.aN,B.within,B.cap,())) a.length (fun k=>if a[k]?=b[k]? then none else some (some (PV.bool false))) (fun k hk rec=>?_) (fin:=fin) (fun rec=>?_) (by have:=aR;omega) rfl).trans ?_
 ·have h1:decide ((k:Int)<(a.length:Int))=true:=by simp;omega
  have jn:k<b.length:=by omega
  unfold gq;dsimp only;try rw[List.length_map]
  rw[if_pos h1,ay,ay,List.getElem?_map,List.getElem?_map,List.getElem?_eq_getElem hk,List.getElem?_eq_getElem jn];simp only[Option.map_some,U];rw[if_pos ⟨rfl,rfl⟩,Path.peq,al (by omega)];by_cases he:a[k]=b[k]
  ·simp[he,c8]
  ·simp[he,c8]
 ·subst ha;subst hb;rw[←tE];unfold gq;dsimp only;rw[if_neg (by simp)];simp only[e1,e2,U,asBool,dw];rfl
 ·exact mw a b h _ _
theorem O7(A B:ag)(hA:A.Ok)(h:A.ah.length=B.ah.length):ca.run (gr ca) (0,A.stops.map Stop.pv,A.ae.map au.pv,A.runs.map bw.pv,A.ah.map aG.pv,A.paths.map Path.pv,A.aq.map aQ.pv,A.aN,A.within,A.cap,B.stops.map Stop.pv,B.ae.map au.pv,B.runs.map bw.pv,B.ah.map aG.pv,B.paths.map Path.pv,B.aq.map aQ.pv,B.aN,B.within,B.cap,())=if A.ah=B.ah then ca.run (gq) (0,A.stops.map Stop.pv,A.ae.map au.pv,A.runs.map bw.pv,A.ah.map aG.pv,A.paths.map Path.pv,A.aq.map aQ.pv,A.aN,A.within,A.cap,B.stops.map Stop.pv,B.ae.map au.pv,B.runs.map bw.pv,B.ah.map aG.pv,B.paths.map Path.pv,B.aq.map aQ.pv,B.aN,B.within,B.cap,())else some (.bool false):=by
 have hm:=aW;have hl:=hA.ah.1;have e1:=pY A.runs B.runs hA.runs.1 (fun x hx=>(hA.runs.2 x hx).calls.1);have e2:=nH A.aq B.aq A.aN A.within A.cap B.aN B.within B.cap hA.aq.1;unfold ue at e2;generalize tE:(ca.run (gq) (0,A.stops.map Stop.pv,A.ae.map au.pv,A.runs.map bw.pv,A.ah.map aG.pv,A.paths.map Path.pv,A.aq.map aQ.pv,A.aN,A.within,A.cap,B.stops.map Stop.pv,B.ae.map au.pv,B.runs.map bw.pv,B.ah.map aG.pv,B.paths.map Path.pv,B.aq.map aQ.pv,B.aN,B.within,B.cap,()):Option PV)=fin;generalize ha:A.ah=a at h hl⊢;generalize hb:B.ah=b at h⊢;refine(aX (fun k=>((k:Int),A.stops.map Stop.pv,A.ae.map au.pv,A.runs.map bw.pv,a.map aG.pv,A.paths.map Path.pv,A.aq.map aQ.pv,A.aN,A.within,A.cap,B.stops.map Stop.pv,B.ae.map au.pv,B.runs.map bw.pv,b.map aG.pv,B.paths.map Path.pv,B.aq.map aQ.pv,B.aN,B.within,B.cap,())) a.length (fun k=>if a[k]?=b[k]? then none else some (some (PV.bool false))) (fun k hk rec=>?_) (fin:=fin) (fun rec=>?_) (by have:=aR;omega) rfl).trans ?_
 ·have h1:decide ((k:Int)<(a.length:Int))=true:=by simp;omega
  have jn:k<b.length:=by omega
  unfold gr;dsimp only;try rw[List.length_map]
  rw[if_pos h1,ay,ay,List.getElem?_map,List.getElem?_map,List.getElem?_eq_getElem hk,List.getElem?_eq_getElem jn];simp only[Option.map_some,U];rw[if_pos ⟨rfl,rfl⟩,aG.peq,al (by omega)];by_cases he:a[k]=b[k]
  ·simp[he,c8]
  ·simp[he,c8]
 ·subst ha;subst hb;rw[←tE];unfold gr;dsimp only;rw[if_neg (by simp)]
 ·exact mw a b h _ _
theorem O8(A B:ag)(hA:A.Ok)(h:A.ae.length=B.ae.length):ca.run (gu ca) (0,A.stops.map Stop.pv,A.ae.map au.pv,A.runs.map bw.pv,A.ah.map aG.pv,A.paths.map Path.pv,A.aq.map aQ.pv,A.aN,A.within,A.cap,B.stops.map Stop.pv,B.ae.map au.pv,B.runs.map bw.pv,B.ah.map aG.pv,B.paths.map Path.pv,B.aq.map aQ.pv,B.aN,B.within,B.cap,())=if A.ae=B.ae then ca.run (gr ca) (0,A.stops.map Stop.pv,A.ae.map au.pv,A.runs.map bw.pv,A.ah.map aG.pv,A.paths.map Path.pv,A.aq.map aQ.pv,A.aN,A.within,A.cap,B.stops.map Stop.pv,B.ae.map au.pv,B.runs.map bw.pv,B.ah.map aG.pv,B.paths.map Path.pv,B.aq.map aQ.pv,B.aN,B.within,B.cap,())else some (.bool false):=by
 have hm:=aW;have hl:=hA.ae.1;have e1:=pY A.runs B.runs hA.runs.1 (fun x hx=>(hA.runs.2 x hx).calls.1);have e2:=nH A.aq B.aq A.aN A.within A.cap B.aN B.within B.cap hA.aq.1;unfold ue at e2;generalize tE:(ca.run (gr ca) (0,A.stops.map Stop.pv,A.ae.map au.pv,A.runs.map bw.pv,A.ah.map aG.pv,A.paths.map Path.pv,A.aq.map aQ.pv,A.aN,A.within,A.cap,B.stops.map Stop.pv,B.ae.map au.pv,B.runs.map bw.pv,B.ah.map aG.pv,B.paths.map Path.pv,B.aq.map aQ.pv,B.aN,B.within,B.cap,()):Option PV)=fin;generalize ha:A.ae=a at h hl⊢;generalize hb:B.ae=b at h⊢;refine(aX (fun k=>((k:Int),A.stops.map Stop.pv,a.map au.pv,A.runs.map bw.pv,A.ah.map aG.pv,A.paths.map Path.pv,A.aq.map aQ.pv,A.aN,A.within,A.cap,B.stops.map Stop.pv,b.map au.pv,B.runs.map bw.pv,B.ah.map aG.pv,B.paths.map Path.pv,B.aq.map aQ.pv,B.aN,B.within,B.cap,())) a.length (fun k=>if a[k]?=b[k]? then none else some (some (PV.bool false))) (fun k hk rec=>?_) (fin:=fin) (fun rec=>?_) (by have:=aR;omega) rfl).trans ?_
 ·have h1:decide ((k:Int)<(a.length:Int))=true:=by simp;omega
  have jn:k<b.length:=by omega
  unfold gu;dsimp only;try rw[List.length_map]
  rw[if_pos h1,ay,ay,List.getElem?_map,List.getElem?_map,List.getElem?_eq_getElem hk,List.getElem?_eq_getElem jn];simp only[Option.map_some,U];rw[if_pos ⟨rfl,rfl⟩,au.peq,al (by omega)];by_cases he:a[k]=b[k]
  ·simp[he,c8]
  ·simp[he,c8]
 ·subst ha;subst hb;rw[←tE];unfold gu;dsimp only;rw[if_neg (by simp)]
 ·exact mw a b h _ _
theorem O9(A B:ag)(hA:A.Ok)(h:A.stops.length=B.stops.length):ca.run (lz ca) (0,A.stops.map Stop.pv,A.ae.map au.pv,A.runs.map bw.pv,A.ah.map aG.pv,A.paths.map Path.pv,A.aq.map aQ.pv,A.aN,A.within,A.cap,B.stops.map Stop.pv,B.ae.map au.pv,B.runs.map bw.pv,B.ah.map aG.pv,B.paths.map Path.pv,B.aq.map aQ.pv,B.aN,B.within,B.cap,())=if A.stops=B.stops then ca.run (gu ca) (0,A.stops.map Stop.pv,A.ae.map au.pv,A.runs.map bw.pv,A.ah.map aG.pv,A.paths.map Path.pv,A.aq.map aQ.pv,A.aN,A.within,A.cap,B.stops.map Stop.pv,B.ae.map au.pv,B.runs.map bw.pv,B.ah.map aG.pv,B.paths.map Path.pv,B.aq.map aQ.pv,B.aN,B.within,B.cap,())else some (.bool false):=by
 have hm:=aW;have hl:=hA.stops.1;have e1:=pY A.runs B.runs hA.runs.1 (fun x hx=>(hA.runs.2 x hx).calls.1);have e2:=nH A.aq B.aq A.aN A.within A.cap B.aN B.within B.cap hA.aq.1;unfold ue at e2;generalize tE:(ca.run (gu ca) (0,A.stops.map Stop.pv,A.ae.map au.pv,A.runs.map bw.pv,A.ah.map aG.pv,A.paths.map Path.pv,A.aq.map aQ.pv,A.aN,A.within,A.cap,B.stops.map Stop.pv,B.ae.map au.pv,B.runs.map bw.pv,B.ah.map aG.pv,B.paths.map Path.pv,B.aq.map aQ.pv,B.aN,B.within,B.cap,()):Option PV)=fin;generalize ha:A.stops=a at h hl⊢;generalize hb:B.stops=b at h⊢;refine(aX (fun k=>((k:Int),a.map Stop.pv,A.ae.map au.pv,A.runs.map bw.pv,A.ah.map aG.pv,A.paths.map Path.pv,A.aq.map aQ.pv,A.aN,A.within,A.cap,b.map Stop.pv,B.ae.map au.pv,B.runs.map bw.pv,B.ah.map aG.pv,B.paths.map Path.pv,B.aq.map aQ.pv,B.aN,B.within,B.cap,())) a.length (fun k=>if a[k]?=b[k]? then none else some (some (PV.bool false))) (fun k hk rec=>?_) (fin:=fin) (fun rec=>?_) (by have:=aR;omega) rfl).trans ?_
 ·have h1:decide ((k:Int)<(a.length:Int))=true:=by simp;omega
  have jn:k<b.length:=by omega
  unfold lz;dsimp only;try rw[List.length_map]
  rw[if_pos h1,ay,ay,List.getElem?_map,List.getElem?_map,List.getElem?_eq_getElem hk,List.getElem?_eq_getElem jn];simp only[Option.map_some,U];rw[if_pos ⟨rfl,rfl⟩,Stop.peq,al (by omega)];by_cases he:a[k]=b[k]
  ·simp[he,c8]
  ·simp[he,c8]
 ·subst ha;subst hb;rw[←tE];unfold lz;dsimp only;rw[if_neg (by simp)]
 ·exact mw a b h _ _
theorem Pa(A B:ag)(hA:A.Ok):fa [A.pv,B.pv]=some (.bool (eqN A B)):=by
 simp only[fa,mJ,pD,rn,rq,rr,ru,ry,rz,rA,rB,rC,U,bn,List.length_map,pX];unfold eqN;by_cases h1:A.stops.length=B.stops.length
 ·by_cases h2:A.ae.length=B.ae.length
  ·by_cases h3:A.ah.length=B.ah.length
   ·by_cases h4:A.paths.length=B.paths.length
    ·rw[if_neg (by simp[h1,h2,h3,h4]),O9 A B hA h1,O8 A B hA h2,O7 A B hA h3,O6 A B hA h4];unfold KW;by_cases g1:A.stops=B.stops
     ·by_cases g2:A.ae=B.ae
      ·by_cases g3:A.ah=B.ah
       ·by_cases g4:A.paths=B.paths
        ·rw[if_pos g1,if_pos g2,if_pos g3,if_pos g4];simp[g1,g2,g3,g4]
        ·rw[if_pos g1,if_pos g2,if_pos g3,if_neg g4];simp[g4]
       ·rw[if_pos g1,if_pos g2,if_neg g3];simp[g3]
      ·rw[if_pos g1,if_neg g2];simp[g2]
     ·rw[if_neg g1];simp[g1]
    ·rw[if_pos (by simp[h4])];have:A.paths≠B.paths:=fun e=>h4 (by rw[e]);simp[this]
   ·rw[if_pos (by simp[h3])];have:A.ah≠B.ah:=fun e=>h3 (by rw[e]);simp[this]
  ·rw[if_pos (by simp[h2])];have:A.ae≠B.ae:=fun e=>h2 (by rw[e]);simp[this]
 ·rw[if_pos (by simp[h1])];have:A.stops≠B.stops:=fun e=>h1 (by rw[e]);simp[this]
end Go.Ab.Tt
namespace Go.Ab.Tt
set_option maxRecDepth 100000
set_option linter.unusedVariables false
set_option linter.unusedSimpArgs false
theorem cJ(es:List PV)(n:Nat)(h:es.length≤1000)(hn:0<n)(hn2:n≤1000):(([]:List PV)++es).length*n≤aa∧0<n:=by refine⟨?_,hn⟩;rw[List.nil_append];have:es.length*n≤1000*1000:=Nat.mul_le_mul h hn2;unfold aa;omega
theorem kh(es:List PV):List.take (((([]:List PV)++es).length:Int).toNat) (([]:List PV)++es)=es:=by simp
theorem Cg(es:List PV)(h:es.length≤1000):cw [.rs 4 es]=some (.rs 4 es):=by simp only[cw,kc,ab,if_true,U];rw[if_pos (cJ es 40 h (by decide) (by decide)),if_pos ⟨by omega,by omega,by omega,trivial⟩,kh]
theorem zJ(es:List PV)(h:es.length≤1000):cj [.rs 3 es]=some (.rs 3 es):=by simp only[cj,jr,ab,if_true,U];rw[if_pos (cJ es 32 h (by decide) (by decide)),if_pos ⟨by omega,by omega,by omega,trivial⟩,kh]
theorem DO(es:List PV)(h:es.length≤1000):cQ [.rs 8 es]=some (.rs 8 es):=by simp only[cQ,k8,ab,if_true,U];rw[if_pos (cJ es 80 h (by decide) (by decide)),if_pos ⟨by omega,by omega,by omega,trivial⟩,kh]
theorem Ch(es:List PV)(h:es.length≤1000):cy [.rs 5 es]=some (.rs 5 es):=by simp only[cy,j9,ab,if_true,U];rw[if_pos (cJ es 40 h (by decide) (by decide)),if_pos ⟨by omega,by omega,by omega,trivial⟩,kh]
theorem uf(es:List PV)(h:es.length≤1000):bF [.rs 4 es]=some (.rs 4 es):=by simp only[bF,gM,ab,if_true,U];rw[if_pos (cJ es 32 h (by decide) (by decide)),if_pos ⟨by omega,by omega,by omega,trivial⟩,kh]
theorem Ci(es:List PV)(h:es.length≤1000):cz [.rs 5 es]=some (.rs 5 es):=by simp only[cz,j5,ab,if_true,U];rw[if_pos (cJ es 32 h (by decide) (by decide)),if_pos ⟨by omega,by omega,by omega,trivial⟩,kh]
theorem vI(es:List PV)(h:es.length≤1000):bN [.rs 6 es]=some (.rs 6 es):=by simp only[bN,hZ,ab,if_true,U];rw[if_pos (cJ es 56 h (by decide) (by decide)),if_pos ⟨by omega,by omega,by omega,trivial⟩,kh]
variable{A:Type}
def mix(f g:A→PV)(l:List A)(k:Nat):List PV:=(l.take k).map f++(l.drop k).map g
theorem Hq(f g:A→PV)(l:List A):mix f g l 0=l.map g:=by simp[mix]
theorem E5(f g:A→PV)(l:List A):mix f g l l.length=l.map f:=by simp[mix]
theorem Nb(f g:A→PV)(l:List A)(k:Nat):(mix f g l k).length=l.length:=by simp[mix];omega
theorem Nc(f g:A→PV)(l:List A)(k:Nat)(h:k<l.length):(mix f g l k)[k]?=some (g l[k]):=by unfold mix;rw[List.getElem?_append_right (by simp;omega)];simp only[List.length_map,List.length_take,Nat.min_eq_left (Nat.le_of_lt h),Nat.sub_self,List.getElem?_map,List.getElem?_drop,Nat.add_zero,List.getElem?_eq_getElem h,Option.map_some]
theorem Nf(f g:A→PV)(l:List A)(k:Nat)(h:k<l.length):(mix f g l k).set k (f l[k])=mix f g l (k+1):=by
 apply List.ext_getElem?;intro j;rw[List.getElem?_set];unfold mix;by_cases hj:k=j
 ·subst hj;rw[if_pos rfl,if_pos (by simp;omega),List.getElem?_append_left (by simp;omega)];simp[h]
 ·rw[if_neg hj];by_cases br:j<k
  ·rw[List.getElem?_append_left (by simp;omega),List.getElem?_append_left (by simp;omega)];simp[br,Nat.lt_succ_of_lt br]
  ·rw[List.getElem?_append_right (by simp;omega),List.getElem?_append_right (by simp;omega)];simp only[List.length_map,List.length_take,List.getElem?_map,List.getElem?_drop];congr 2;omega
theorem eh(f g:A→PV)(l:List A)(k:Nat)(h:k<l.length)(p:PV):((mix f g l k).set k p)[k]?=some p:=by rw[List.getElem?_set,if_pos rfl,if_pos (by rw[Nb];exact h)]
theorem E6(f g:A→PV)(l:List A)(k:Nat)(h:k<l.length):af (k:Int) (mix f g l k).length:=by rw[Nb];exact⟨by omega,by omega⟩
def bw.pN(x:bw):PV:=.agg [.int .i64 x.dp,.int .i64 x.day,.int .i64 x.inst,.str x.id,.int .i64 x.bh,.bool x.free,.bool x.oZ,.fP 5 (x.calls.map av.pv)]
theorem kj(l:List bw):(l.map bw.pN).map PV.strip=l.map bw.pv:=by rw[List.map_map];rfl
end Go.Ab.Tt
