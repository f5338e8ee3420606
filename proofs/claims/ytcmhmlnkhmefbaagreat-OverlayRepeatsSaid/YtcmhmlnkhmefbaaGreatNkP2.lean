import Derived.Test.YtcmhmlnkhmefbaaGreatNkP1
import Derived.Test.YtcmhmlnkhmefbaaGreatNwP2
namespace Go.Ab.Tt
set_option maxRecDepth 100000
set_option linter.unusedVariables false
set_option linter.unusedSimpArgs false
def bZ(x:Path):Int×Int×Bool:=(x.a,x.b,x.free)
def yG(x:Int×Int×Bool):PV:=.agg [.int .i64 x.1,.int .i64 x.2.1,.bool x.2.2]
theorem G7(a b:Int×Int×Bool):cB (yG a).cells (yG b).cells=decide (a=b):=by obtain⟨a1,a2,a3⟩:=a;obtain⟨b1,b2,b3⟩:=b;rw[Bool.eq_iff_iff];simp[yG,PV.cells,cB,peq]
def du(l:List Path)(n:Int)(k:Nat):Int:=match l[k]? with
 |none=>0
 |some x=>if(decide (x.a<0)||decide (x.a≥n)||decide (x.b<0)||decide (x.b≥n)||decide (x.a=x.b))=true then 9 else if(decide (x.bT<1)||decide (x.bT>14400))=true then 2 else if bZ x∈(l.map bZ).take k then 6 else 0
theorem Kw(l:List Path)(n:Int)(hl:l.length≤maxLen):eB [.rs 4 (l.map Path.pv),.int .i64 n]=some (res (bV (du l n) l.length).1 (bV (du l n) l.length).2):=by
 have hm:=aW;simp only[eB,oR,ab,asInt,if_true,U,List.length_map];rw[←mL];refine aX (fun k=>(n,l.map Path.pv,(l.length:Int),(k:Int),seen yG ((l.map bZ).take k),())) l.length _ (fun k hk rec=>?_) (fun rec=>?_) ?_ rfl
 ·have h1:(k:Int)<(l.length:Int):=by omega
  have qu:eO (.agg [.int .i64 l[k].a,.int .i64 l[k].b,.bool l[k].free]) (.bool true) (seen yG ((l.map bZ).take k))=_:=mM G7 (bZ l[k]) ((l.map bZ).take k);have rn:dL (.agg [.int .i64 l[k].a,.int .i64 l[k].b,.bool l[k].free]) (.bool false) (seen yG ((l.map bZ).take k))=_:=kE G7 (bZ l[k]) ((l.map bZ).take k);simp only[ll,decide_eq_true_eq,h1,if_true,az,List.getElem?_map,List.getElem?_eq_getElem hk,Option.map_some,U,G4,G5,MT,G6,asInt,asBool,qu,rn,fa,an (show k<9223372036854775807 by omega),oV bZ l k hk];unfold du;rw[List.getElem?_eq_getElem hk];simp only;by_cases bO:bZ l[k]∈(l.map bZ).take k
  ·simp only[bO,if_true];by_cases e1:l[k].a<0<;>by_cases e2:l[k].a≥n<;>by_cases e3:l[k].b<0<;>by_cases e4:l[k].b≥n<;>by_cases e5:l[k].a=l[k].b<;>by_cases e6:l[k].bT<1<;>by_cases e7:l[k].bT>14400<;>simp only[e1,e2,e3,e4,e5,e6,e7,decide_true,decide_false,Bool.or_true,Bool.true_or,Bool.or_false,if_true,if_false,Bool.false_eq_true]<;>rfl
  ·simp only[bO,if_false,Bool.false_eq_true];by_cases e1:l[k].a<0<;>by_cases e2:l[k].a≥n<;>by_cases e3:l[k].b<0<;>by_cases e4:l[k].b≥n<;>by_cases e5:l[k].a=l[k].b<;>by_cases e6:l[k].bT<1<;>by_cases e7:l[k].bT>14400<;>simp only[e1,e2,e3,e4,e5,e6,e7,decide_true,decide_false,Bool.or_true,Bool.true_or,Bool.or_false,if_true,if_false,Bool.false_eq_true]<;>rfl
 ·simp only[ll,decide_eq_true_eq,Int.lt_irrefl,if_false];rfl
 ·have:=aS;omega
def toFp(p:Path):Nw.Fp:=⟨p.a.toNat,p.b.toNat,p.bT.toNat,p.free⟩
def Sound(l:List Path)(n:Nat):Prop:=∀p∈l,0≤p.a∧p.a<n∧0≤p.b∧p.b<n∧1≤p.bT∧p.bT≤14400
variable{l:List Path}{n:Nat}
theorem G8(h:(bV (du l n) l.length).2=0):Sound l n:=by
 intro p hp;obtain⟨k,hk,rfl⟩:=List.getElem_of_mem hp;have h0:=(mb _ _).1 h k hk;unfold du at h0;rw[List.getElem?_eq_getElem hk]at h0;simp only at h0;by_cases c1:(decide (l[k].a<0)||decide (l[k].a≥n)||decide (l[k].b<0)||decide (l[k].b≥n)||decide (l[k].a=l[k].b))=true
 ·rw[if_pos c1]at h0;omega
 ·rw[if_neg c1]at h0;by_cases c2:(decide (l[k].bT<1)||decide (l[k].bT>14400))=true
  ·rw[if_pos c2]at h0;omega
  ·simp only[Bool.or_eq_true,decide_eq_true_eq]at c1 c2;omega
theorem toFp_pv{p:Path}(h1:0≤p.a)(h2:0≤p.b)(h3:1≤p.bT):(toFp p).pv=p.pv:=by simp only[toFp,Nw.Fp.pv,Path.pv];rw[Int.toNat_of_nonneg h1,Int.toNat_of_nonneg h2,Int.toNat_of_nonneg (by omega)]
theorem RN(h:Sound l n):(l.map toFp).map Nw.Fp.pv=l.map Path.pv:=by rw[List.map_map];apply List.map_congr_left;intro p hp;exact toFp_pv (h p hp).1 (h p hp).2.2.1 (h p hp).2.2.2.2.1
def MV(e:List PV):Path:=match e with|[.int .i64 a,.int .i64 b,.int .i64 s,.bool f]=>⟨a,b,s,f⟩|_=>⟨0,0,0,false⟩
theorem Cf:∀(L:List (List PV)),(∀e∈L,Nw.IsF e)→eD L=(L.map MV).map Path.pv
 |[],_=>rfl
 |e::L,h=>by obtain⟨i,k,s,b,rfl⟩:=h e (by simp);have:=Cf L fun x hx=>h x (by simp[hx]);unfold eD at this⊢;rw[List.map_cons,List.map_cons,List.map_cons,this];rfl
def gU(l:List Path)(n:Nat):List Path:=(Nw.CS n (Nw.pE n (l.map toFp) false) (Nw.pE n (l.map toFp) true)).map MV
theorem DM(hn:n≤64)(hl:l.length≤4096)(h:Sound l n):c7 [.rs 4 (l.map Path.pv),.int .i64 n]=some (.rs 4 ((gU l n).map Path.pv))∧fq [.rs 4 (l.map Path.pv),.int .i64 n]=some (.rs 4 ((gU l n).map Path.pv)):=by have:=Nw.Kx (l.map toFp) n hn (by simpa using hl) (fun p hp=>by obtain⟨q,hq,rfl⟩:=List.mem_map.1 hp;have:=h q hq;simp only[toFp];omega);rw[RN h,Cf _ (Nw.G9 n _ _)]at this;exact this
theorem Ha(l:List Path)(n:Nat)(hn:n≤64):(gU l n).length≤8192:=by
 have h1:(gU l n).length=(eD (Nw.CS n (Nw.pE n (l.map toFp) false) (Nw.pE n (l.map toFp) true))).length:=by simp[gU,eD]
 rw[h1,Nw.yH];have h2:=Nw.xo (it:=fun i k=>Nw.Am (Nw.pE n (l.map toFp) false i k) (Nw.pE n (l.map toFp) true i k) i k) (fun i k=>Nw.EV _ _ i k) n n;have h3:2*n*n≤2*64*64:=Nat.mul_le_mul (Nat.mul_le_mul_left 2 hn) hn;omega
theorem Hb(x y:Path):cB [cell x.pv 0,cell x.pv 1,cell x.pv 2,cell x.pv 3] [cell y.pv 0,cell y.pv 1,cell y.pv 2,cell y.pv 3]=decide (x=y):=by rw[Bool.eq_iff_iff];obtain⟨a,b,c,d⟩:=x;obtain⟨a',b',c',d'⟩:=y;simp[G4,G5,MT,G6,cB,peq]
theorem xp(x:Path):gR (Kd.int IntKind.i64::[].append (Kd.int IntKind.i64::[].append (Kd.int IntKind.i64::[].append (Kd.bool::[].append [])))) [cell x.pv 0,cell x.pv 1,cell x.pv 2,cell x.pv 3]=true:=rfl
def lq(l:List Path)(n:Nat):Bool:=decide (gU l n=l)
theorem Hc(hn:n≤64)(hl:l.length≤4096)(h:(bV (du l n) l.length).2=0):dr [.rs 4 (l.map Path.pv),.int .i64 n]=some (.bool (lq l n)):=by
 have hm:4096≤maxLen:=by decide
 have hs:=Kw l n (by omega);have hf:=OP _ _ h;rw[h,hf]at hs;have hc:=(DM hn hl (G8 h)).1;have sd:=Ha l n hn;have s9:¬decide ((n:Int)>64)=true:=by simp;omega
 have h0:¬(0:Int)>(n:Int):=by omega
 simp only[dr,lf,ab,asInt,if_true,U];rw[if_neg s9,hs];simp only[res,bU,List.length_cons,List.length_nil,Nat.reduceAdd,if_true,U,List.getD_cons_zero,List.getD_cons_succ,asInt,if_neg h0,hc,ab,List.length_map];rw[if_neg (by decide)];unfold lq;by_cases hlen:(gU l n).length=l.length
 ·rw[if_neg (by simp[jC,hlen])];have hr:=my (gU l n) l hlen (some (PV.bool false)) (some (PV.bool true));have:some (PV.bool (decide (gU l n=l)))=if gU l n=l then some (PV.bool true)else some (PV.bool false):=by by_cases hc:gU l n=l<;>simp[hc]
  rw[this,←hr];refine aX (fun k=>(l.map Path.pv,(gU l n).map Path.pv,((gU l n).length:Int),(k:Int),())) (gU l n).length _ (fun k hk rec=>?_) (fun rec=>?_) ?_ rfl
  ·have h1:decide ((k:Int)<((gU l n).length:Int))=true:=by simp;omega
   have jA:k<l.length:=by omega
   unfold iV;dsimp only;rw[if_pos h1,az,List.getElem?_map,List.getElem?_eq_getElem hk,az,List.getElem?_map,List.getElem?_eq_getElem jA];simp only[Option.map_some,U];rw[if_pos ⟨xp _,xp _⟩,Hb,an (by omega)];by_cases he:(gU l n)[k]=l[k]
   ·simp[he,c9]
   ·simp[he,c9]
  ·unfold iV;dsimp only;rw[if_neg (by simp)]
  ·have:=aS;omega
 ·rw[if_pos (by simp[jC];omega)];rw[decide_eq_false (fun hc=>hlen (by rw[hc]))]
def cW(l:List Path)(n:Nat):Int×Int:=if(bV (du l n) l.length).2=0 then(if lq l n=true then(0,0)else(0,18))else bV (du l n) l.length
def qJ(x:Int×Int×Bool):PV:=.agg [.int .i64 x.1,.int .i64 x.2.1,.int .i64 0,.bool x.2.2]
theorem aaz(a b:Int×Int×Bool):cB (qJ a).cells (qJ b).cells=decide (a=b):=by obtain⟨a1,a2,a3⟩:=a;obtain⟨b1,b2,b3⟩:=b;rw[Bool.eq_iff_iff];simp[qJ,PV.cells,cB,peq]
theorem zK(N:ag)(l:List Path)(n:Nat)(hl:l.length≤4096)(hlen:(N.stops.map Stop.pv).length=n)(k:Nat)(hk:k<l.length)(rec:OQ→Option PV):cS (l.map Path.pv,(l.length:Int),(k:Int),N.stops.map Stop.pv,N.ae.map av.pv,N.runs.map bA.pv,N.ah.map aH.pv,l.map Path.pv,N.ar.map aR.pv,N.aO,N.within,N.cap,0,0,0,seen qJ ((l.map bZ).take k),()) rec=c9 (if du l n k=0 then none else some (some (r3 4 k (du l n k)))) (rec (l.map Path.pv,(l.length:Int),((k+1:Nat):Int),N.stops.map Stop.pv,N.ae.map av.pv,N.runs.map bA.pv,N.ah.map aH.pv,l.map Path.pv,N.ar.map aR.pv,N.aO,N.within,N.cap,0,0,0,seen qJ ((l.map bZ).take (k+1)),())):=by
 have h1:decide ((k:Int)<(l.length:Int))=true:=by simp;omega
 have qu:eO (.agg [.int .i64 l[k].a,.int .i64 l[k].b,.int .i64 0,.bool l[k].free]) (.bool true) (seen qJ ((l.map bZ).take k))=_:=mM aaz (bZ l[k]) ((l.map bZ).take k);have rn:dL (.agg [.int .i64 l[k].a,.int .i64 l[k].b,.int .i64 0,.bool l[k].free]) (.bool false) (seen qJ ((l.map bZ).take k))=_:=kE aaz (bZ l[k]) ((l.map bZ).take k);unfold cS;dsimp only;rw[if_pos h1,az,List.getElem?_map,List.getElem?_eq_getElem hk,hlen];simp only[Option.map_some,U,G4,G5,MT,G6,asInt,asBool,if_true,wm,bn,fa,qu,rn,Ce,MU,xn,wI,Al,oV bZ l k hk,an (show k<9223372036854775807 by omega)];have hA:(!(decide (l[k].a≥0)&&decide (l[k].a<(n:Int)))|| !(decide (l[k].b≥0)&&decide (l[k].b<(n:Int)))||decide (l[k].a=l[k].b))=(decide (l[k].a<0)||decide (l[k].a≥(n:Int))||decide (l[k].b<0)||decide (l[k].b≥(n:Int))||decide (l[k].a=l[k].b)):=by rw[Bool.eq_iff_iff];simp only[Bool.or_eq_true,Bool.not_eq_true',Bool.and_eq_false_iff,decide_eq_true_eq,decide_eq_false_iff_not];omega
 rw[hA];unfold du;rw[List.getElem?_eq_getElem hk];simp only;generalize (decide (l[k].a<0)||decide (l[k].a≥(n:Int))||decide (l[k].b<0)||decide (l[k].b≥(n:Int))||decide (l[k].a=l[k].b))=A;generalize (decide (l[k].bT<1)||decide (l[k].bT>14400))=B;by_cases bO:bZ l[k]∈(l.map bZ).take k
 ·simp only[bO,if_true];cases A<;>cases B<;>rfl
 ·simp only[bO,if_false];cases A<;>cases B<;>rfl
theorem CT(N:ag)(hn:N.stops.length≤64)(hl:N.paths.length≤4096):bF [N.pv]=some (prt 4 (cW N.paths N.stops.length)):=by
 have hm:4096≤maxLen:=by decide
 simp only[bF,j5,pD,rq,rr,ru,ry,rz,rA,rB,rC,rD,U,List.length_map];generalize Is:N.paths=l at hl⊢;generalize NW:N.stops.length=n at hn⊢;have hlen:(N.stops.map Stop.pv).length=n:=by simpa using NW
 have hg:=hZ (du l n) l.length (fun i e=>r3 4 i e) (some (if lq l n=true then r3 0 0 0 else r3 4 0 18));have hR:some (prt 4 (cW l n))=if(bV (du l n) l.length).2=0 then some (if lq l n=true then r3 0 0 0 else r3 4 0 18)else some (r3 4 (bV (du l n) l.length).1 (bV (du l n) l.length).2):=by
  unfold cW prt;by_cases h:(bV (du l n) l.length).2=0
  ·rw[if_pos h,if_pos h];cases lq l n<;>rfl
  ·rw[if_neg h,if_neg h,if_neg h]
 rw[hR,←hg];by_cases hz:(bV (du l n) l.length).2=0
 ·refine aX (fun k=>(l.map Path.pv,(l.length:Int),(k:Int),N.stops.map Stop.pv,N.ae.map av.pv,N.runs.map bA.pv,N.ah.map aH.pv,l.map Path.pv,N.ar.map aR.pv,N.aO,N.within,N.cap,0,0,0,seen qJ ((l.map bZ).take k),())) l.length _ (fun k hk rec=>zK N l n hl hlen k hk rec) (fun rec=>?_) ?_ rfl
  ·unfold cS;dsimp only;rw[if_neg (by simp),hlen,Hc hn hl hz];simp only[U,asBool,Ce,MU,xn,wI,Al];cases lq l n<;>rfl
  ·have:=aS;omega
 ·have sZ:=aX (body:=cS) (fun k=>(l.map Path.pv,(l.length:Int),(k:Int),N.stops.map Stop.pv,N.ae.map av.pv,N.runs.map bA.pv,N.ah.map aH.pv,l.map Path.pv,N.ar.map aR.pv,N.aO,N.within,N.cap,0,0,0,seen qJ ((l.map bZ).take k),())) l.length _ (fin:=cS (l.map Path.pv,(l.length:Int),(l.length:Int),N.stops.map Stop.pv,N.ae.map av.pv,N.runs.map bA.pv,N.ah.map aH.pv,l.map Path.pv,N.ar.map aR.pv,N.aO,N.within,N.cap,0,0,0,seen qJ ((l.map bZ).take l.length),()) fun _=>none) (fun k hk rec=>zK N l n hl hlen k hk rec) (fun rec=>?_) (by have:=aS;omega) (s0:=(l.map Path.pv,(l.length:Int),0,N.stops.map Stop.pv,N.ae.map av.pv,N.runs.map bA.pv,N.ah.map aH.pv,l.map Path.pv,N.ar.map aR.pv,N.aO,N.within,N.cap,0,0,0,[],())) rfl
  ·rw[sZ,hZ,hZ,if_neg hz,if_neg hz]
  ·unfold cS;dsimp only;rw[if_neg (by simp),if_neg (by simp)]
end Go.Ab.Tt
namespace Go.Ab.Tt
set_option maxRecDepth 100000
set_option linter.unusedVariables false
set_option linter.unusedSimpArgs false
theorem EW(N:ag)(l:List Path)(hl:l.length≤4096)(i:Nat)(hi:i<l.length)(fe:CU→Option PV):cd.run (lr fe) ((i:Int),0,N.stops.map Stop.pv,N.ae.map av.pv,N.runs.map bA.pv,N.ah.map aH.pv,l.map Path.pv,N.ar.map aR.pv,N.aO,N.within,N.cap,.int .i64 l[i].a,.int .i64 l[i].b,.int .i64 l[i].bT,.bool l[i].free,())=if bZ l[i]∈(l.map bZ).take i then some (res i 6)else fe (IntKind.i64.wrap ((i:Int)+1),N.stops.map Stop.pv,N.ae.map av.pv,N.runs.map bA.pv,N.ah.map aH.pv,l.map Path.pv,N.ar.map aR.pv,N.aO,N.within,N.cap,()):=by
 have hm:4096≤maxLen:=by decide
 refine(oY (fun k=>((i:Int),(k:Int),N.stops.map Stop.pv,N.ae.map av.pv,N.runs.map bA.pv,N.ah.map aH.pv,l.map Path.pv,N.ar.map aR.pv,N.aO,N.within,N.cap,PV.int .i64 l[i].a,PV.int .i64 l[i].b,PV.int .i64 l[i].bT,PV.bool l[i].free,())) i (fun k=>decide ((l.map bZ)[k]?=some (bZ l[i]))) (no:=some (res i 6)) (fin:=fe (IntKind.i64.wrap ((i:Int)+1),N.stops.map Stop.pv,N.ae.map av.pv,N.runs.map bA.pv,N.ah.map aH.pv,l.map Path.pv,N.ar.map aR.pv,N.aO,N.within,N.cap,())) (fun k hk rec=>?_) (fun rec=>?_) ?_ rfl).trans ?_
 ·have h1:decide ((k:Int)<(i:Int))=true:=by simp;omega
  have jA:k<l.length:=by omega
  have hd:decide ((l.map bZ)[k]?=some (bZ l[i]))=(decide (l[k].a=l[i].a)&&decide (l[k].b=l[i].b)&&decide (l[k].free=l[i].free)):=by rw[Bool.eq_iff_iff];simp[List.getElem?_eq_getElem jA,bZ,and_assoc]
  rw[hd];unfold lr;dsimp only;rw[if_pos h1,az,List.getElem?_map,List.getElem?_eq_getElem jA];simp only[Option.map_some,U,G4,G5,G6,asInt,asBool,if_true,an (show k<9223372036854775807 by omega),fa,dy];rfl
 ·unfold lr;dsimp only;rw[if_neg (by simp)]
 ·have:=aS;omega
 ·rw[AE _ _ (by simp;omega)];simp only[decide_eq_true_eq]
theorem OR(N:ag)(hn:N.stops.length≤64)(hl:N.paths.length≤4096):jG [N.pv]=some (res (cW N.paths N.stops.length).1 (cW N.paths N.stops.length).2):=by
 have hm:4096≤maxLen:=by decide
 simp only[jG,tP,pD,rq,rr,ru,ry,rz,rA,rB,rC,rD,U];generalize Is:N.paths=l at hl⊢;generalize NW:N.stops.length=n at hn⊢;have hlen:(N.stops.map Stop.pv).length=n:=by simpa using NW
 have hw:IntKind.i64.wrap ((n:Int)-1)=(n:Int)-1:=fy (by omega) (by omega);have RO:∀k,(hk:k<l.length)→∀rec,fv cd ((k:Int),N.stops.map Stop.pv,N.ae.map av.pv,N.runs.map bA.pv,N.ah.map aH.pv,l.map Path.pv,N.ar.map aR.pv,N.aO,N.within,N.cap,()) rec=c9 (if du l n k=0 then none else some (some (res k (du l n k)))) (rec (((k+1:Nat):Int),N.stops.map Stop.pv,N.ae.map av.pv,N.runs.map bA.pv,N.ah.map aH.pv,l.map Path.pv,N.ar.map aR.pv,N.aO,N.within,N.cap,())):=by
  intro k hk rec;have h1:decide ((k:Int)<((l.map Path.pv).length:Int))=true:=by simp;omega
  have pS:=EW N l hl k hk rec;unfold fv;dsimp only;rw[if_pos h1,az,List.getElem?_map,List.getElem?_eq_getElem hk,hlen,hw];simp only[Option.map_some,U,G4,G5,MT,G6,asInt,asBool,if_true,Cb,bn,fa,pS,an (show k<9223372036854775807 by omega)];have hA:(!(decide (l[k].a≥0)&&decide (l[k].a≤(n:Int)-1))|| !(decide (l[k].b≥0)&&decide (l[k].b≤(n:Int)-1))||decide (l[k].a=l[k].b))=(decide (l[k].a<0)||decide (l[k].a≥(n:Int))||decide (l[k].b<0)||decide (l[k].b≥(n:Int))||decide (l[k].a=l[k].b)):=by rw[Bool.eq_iff_iff];simp only[Bool.or_eq_true,Bool.not_eq_true',Bool.and_eq_false_iff,decide_eq_true_eq,decide_eq_false_iff_not];omega
  have hB:(!(decide (l[k].bT≥1)&&decide (l[k].bT≤14400)))=(decide (l[k].bT<1)||decide (l[k].bT>14400)):=by rw[Bool.eq_iff_iff];simp only[Bool.or_eq_true,Bool.not_eq_true',Bool.and_eq_false_iff,decide_eq_true_eq,decide_eq_false_iff_not];omega
  rw[hA,hB];unfold du;rw[List.getElem?_eq_getElem hk];simp only;generalize (decide (l[k].a<0)||decide (l[k].a≥(n:Int))||decide (l[k].b<0)||decide (l[k].b≥(n:Int))||decide (l[k].a=l[k].b))=A;generalize (decide (l[k].bT<1)||decide (l[k].bT>14400))=B;by_cases bO:bZ l[k]∈(l.map bZ).take k
  ·simp only[bO,if_true];cases A<;>cases B<;>rfl
  ·simp only[bO,if_false];cases A<;>cases B<;>rfl
 have hg:=hZ (du l n) l.length (fun i e=>res i e) (some (if lq l n=true then res 0 0 else res 0 18));have hR:some (res (cW l n).1 (cW l n).2)=if(bV (du l n) l.length).2=0 then some (if lq l n=true then res 0 0 else res 0 18)else some (res (bV (du l n) l.length).1 (bV (du l n) l.length).2):=by
  unfold cW;by_cases h:(bV (du l n) l.length).2=0
  ·rw[if_pos h,if_pos h];cases lq l n<;>rfl
  ·rw[if_neg h,if_neg h]
 rw[hR,←hg];by_cases hz:(bV (du l n) l.length).2=0
 ·refine aX (fun k=>((k:Int),N.stops.map Stop.pv,N.ae.map av.pv,N.runs.map bA.pv,N.ah.map aH.pv,l.map Path.pv,N.ar.map aR.pv,N.aO,N.within,N.cap,())) l.length _ RO (fun rec=>?_) ?_ rfl
  ·have hc:=(DM hn hl (G8 hz)).2;have sd:=Ha l n hn;unfold fv;dsimp only;rw[if_neg (by simp),hlen,hc];simp only[U,ab,if_true,List.length_map];unfold lq;by_cases RP:(gU l n).length=l.length
   ·rw[if_neg (by simp[jC,RP])];have hr:=my (gU l n) l RP (some (res 0 18)) (some (res 0 0));have:some (if decide (gU l n=l)=true then res 0 0 else res 0 18)=if gU l n=l then some (res 0 0)else some (res 0 18):=by by_cases hc:gU l n=l<;>simp[hc]
    rw[this,←hr];refine aX (fun k=>((gU l n).map Path.pv,(k:Int),N.stops.map Stop.pv,N.ae.map av.pv,N.runs.map bA.pv,N.ah.map aH.pv,l.map Path.pv,N.ar.map aR.pv,N.aO,N.within,N.cap,())) (gU l n).length _ (fun k hk rec=>?_) (fun rec=>?_) ?_ rfl
    ·have h1:decide ((k:Int)<(((gU l n).map Path.pv).length:Int))=true:=by simp;omega
     have jA:k<l.length:=by omega
     unfold pd;dsimp only;rw[if_pos h1,az,List.getElem?_map,List.getElem?_eq_getElem hk,az,List.getElem?_map,List.getElem?_eq_getElem jA];simp only[Option.map_some,U];rw[if_pos ⟨xp _,xp _⟩,Hb,an (by omega)];by_cases he:(gU l n)[k]=l[k]
     ·simp[he,c9]
     ·simp[he,c9,res]
    ·unfold pd;dsimp only;rw[if_neg (by simp)];rfl
    ·have:=aS;omega
   ·rw[if_pos (by simp[jC];omega)];rw[decide_eq_false (fun hc=>RP (by rw[hc]))];rfl
  ·have:=aS;omega
 ·have sZ:=aX (body:=fv cd) (fun k=>((k:Int),N.stops.map Stop.pv,N.ae.map av.pv,N.runs.map bA.pv,N.ah.map aH.pv,l.map Path.pv,N.ar.map aR.pv,N.aO,N.within,N.cap,())) l.length _ (fin:=fv cd ((l.length:Int),N.stops.map Stop.pv,N.ae.map av.pv,N.runs.map bA.pv,N.ah.map aH.pv,l.map Path.pv,N.ar.map aR.pv,N.aO,N.within,N.cap,()) fun _=>none) RO (fun rec=>?_) (by have:=aS;omega) (s0:=(0,N.stops.map Stop.pv,N.ae.map av.pv,N.runs.map bA.pv,N.ah.map aH.pv,l.map Path.pv,N.ar.map aR.pv,N.aO,N.within,N.cap,())) rfl
  ·rw[sZ,hZ,hZ,if_neg hz,if_neg hz]
  ·unfold fv;dsimp only;rw[if_neg (by simp),if_neg (by simp)]
end Go.Ab.Tt
namespace Go.Ab.Tt
set_option maxRecDepth 100000
set_option linter.unusedVariables false
set_option linter.unusedSimpArgs false
def bh(x:bA):Bytes×Int×Int:=(x.id,x.day,x.inst)
def Hd(x:Bytes×Int×Int):PV:=.agg [.str x.1,.int .i64 x.2.1,.int .i64 x.2.2]
theorem RQ(a b:Bytes×Int×Int):cB (Hd a).cells (Hd b).cells=decide (a=b):=by obtain⟨a1,a2,a3⟩:=a;obtain⟨b1,b2,b3⟩:=b;rw[Bool.eq_iff_iff];simp[Hd,PV.cells,cB,peq]
def iW(l:List bA)(stops ae:Int)(k:Nat):Int:=match l[k]? with
 |none=>0
 |some x=>if eN x.id=false then 12 else if(decide (x.dw< -1)||decide (x.inst<0))=true then 2 else if(decide (x.day<0)||decide (x.day>36524))=true then 11 else if(decide (x.bk<0)||decide (x.bk≥ae))=true then 9 else if(bu x.calls stops 0 3155932800).2=0 then(if bh x∈(l.map bh).take k then 6 else 0)else(bu x.calls stops 0 3155932800).2
def gb(l:List bA)(stops ae:Int):Int×Int:=if l.length>1024 then(0,5)else bV (iW l stops ae) l.length
theorem Ky(N:ag)(l:List bA)(hl:l.length≤maxLen∧∀y∈l,y.Ok)(k:Nat)(hk:k<l.length)(rec:OQ→Option PV):fL (l.map bA.pv,(l.length:Int),(k:Int),N.stops.map Stop.pv,N.ae.map av.pv,l.map bA.pv,N.ah.map aH.pv,N.paths.map Path.pv,N.ar.map aR.pv,N.aO,N.within,N.cap,0,0,0,seen Hd ((l.map bh).take k),()) rec=c9 (if iW l N.stops.length N.ae.length k=0 then none else some (some (r3 2 k (iW l N.stops.length N.ae.length k)))) (rec (l.map bA.pv,(l.length:Int),((k+1:Nat):Int),N.stops.map Stop.pv,N.ae.map av.pv,l.map bA.pv,N.ah.map aH.pv,N.paths.map Path.pv,N.ar.map aR.pv,N.aO,N.within,N.cap,0,0,0,seen Hd ((l.map bh).take (k+1)),())):=by
 have hm:=aW;have h1:decide ((k:Int)<(l.length:Int))=true:=by simp;omega
 have hO:=hl.2 _ (List.getElem_mem hk);have hid:=ua l[k].id hO.id;have gz:=nU l[k].calls N.stops.length 0 3155932800 hO.calls.1;simp only[res]at gz;have qu:eO (.agg [.str l[k].id,.int .i64 l[k].day,.int .i64 l[k].inst]) (.bool true) (seen Hd ((l.map bh).take k))=_:=mM RQ (bh l[k]) ((l.map bh).take k);have rn:dL (.agg [.str l[k].id,.int .i64 l[k].day,.int .i64 l[k].inst]) (.bool false) (seen Hd ((l.map bh).take k))=_:=kE RQ (bh l[k]) ((l.map bh).take k);unfold fL;dsimp only;rw[if_pos h1,az,List.getElem?_map,List.getElem?_eq_getElem hk];simp only[Option.map_some,U,Uz,OM,ON,OO,UA,EU,bx,asInt,asBool,ab,if_true,List.length_map,hid,gz,bU,List.length_cons,List.length_nil,Nat.reduceAdd,List.getD_cons_zero,List.getD_cons_succ,bn,jC,qu,rn,Ce,MU,xn,wI,Al,oV bh l k hk,an (show k<9223372036854775807 by omega)];unfold iW;rw[List.getElem?_eq_getElem hk];simp only;generalize (decide (l[k].dw< -1)||decide (l[k].inst<0))=A;generalize (decide (l[k].day<0)||decide (l[k].day>36524))=B;generalize (decide (l[k].bk<0)||decide (l[k].bk≥(N.ae.length:Int)))=C;generalize (bu l[k].calls N.stops.length 0 3155932800).2=e;cases eN l[k].id with
 |false=>rfl
 |true=>
  cases A with
  |true=>rfl
  |false=>
   cases B with
   |true=>rfl
   |false=>
    cases C with
    |true=>rfl
    |false=>
     simp only[Bool.not_true,Bool.false_eq_true,Bool.true_eq_false,if_false];by_cases he:e=0
     ·subst he;by_cases bO:bh l[k]∈(l.map bh).take k
      ·simp only[bO,if_true,decide_true,Bool.not_true,Bool.false_eq_true,if_false];rfl
      ·simp only[bO,if_true,decide_true,decide_false,Bool.not_true,Bool.false_eq_true,if_false];rfl
     ·simp only[he,if_false,if_true,decide_false,Bool.not_false];rfl
theorem EX(N:ag)(hl:N.runs.length≤maxLen∧∀y∈N.runs,y.Ok):dq [N.pv]=some (prt 2 (gb N.runs N.stops.length N.ae.length)):=by
 have hm:=aW;simp only[dq,k9,pD,rq,rr,ru,ry,rz,rA,rB,rC,rD,U,List.length_map];generalize Is:N.runs=l at hl⊢;unfold gb;by_cases s9:l.length>1024
 ·rw[if_pos (by simp;omega),if_pos s9];rfl
 ·rw[if_neg (by simp;omega),if_neg s9];have hR:some (prt 2 (bV (iW l N.stops.length N.ae.length) l.length))=if(bV (iW l N.stops.length N.ae.length) l.length).2=0 then some (r3 0 0 0)else some (r3 2 (bV (iW l N.stops.length N.ae.length) l.length).1 (bV (iW l N.stops.length N.ae.length) l.length).2):=by
   unfold prt;by_cases h:(bV (iW l N.stops.length N.ae.length) l.length).2=0
   ·rw[if_pos h,if_pos h]
   ·rw[if_neg h,if_neg h]
  rw[hR,←hZ (iW l N.stops.length N.ae.length) l.length (fun i e=>r3 2 i e)];refine aX (fun k=>(l.map bA.pv,(l.length:Int),(k:Int),N.stops.map Stop.pv,N.ae.map av.pv,l.map bA.pv,N.ah.map aH.pv,N.paths.map Path.pv,N.ar.map aR.pv,N.aO,N.within,N.cap,0,0,0,seen Hd ((l.map bh).take k),())) l.length _ (fun k hk rec=>Ky N l hl k hk rec) (fun rec=>?_) ?_ rfl
  ·unfold fL;dsimp only;rw[if_neg (by simp)];rfl
  ·have:=aS;omega
theorem Kz(N:ag)(l:List bA)(hl:l.length≤maxLen)(i:Nat)(hi:i<l.length):cd.run nG ((i:Int),0,N.stops.map Stop.pv,N.ae.map av.pv,l.map bA.pv,N.ah.map aH.pv,N.paths.map Path.pv,N.ar.map aR.pv,N.aO,N.within,N.cap,.int .i64 l[i].dw,.int .i64 l[i].day,.int .i64 l[i].inst,.str l[i].id,.int .i64 l[i].bk,.bool l[i].free,.bool l[i].nF,.rs 5 (l[i].calls.map aw.pv),())=if bh l[i]∈(l.map bh).take i then some (.int .i64 6)else some (.int .i64 0):=by
 have hm:=aW;refine(oY (fun k=>((i:Int),(k:Int),N.stops.map Stop.pv,N.ae.map av.pv,l.map bA.pv,N.ah.map aH.pv,N.paths.map Path.pv,N.ar.map aR.pv,N.aO,N.within,N.cap,PV.int .i64 l[i].dw,PV.int .i64 l[i].day,PV.int .i64 l[i].inst,PV.str l[i].id,PV.int .i64 l[i].bk,PV.bool l[i].free,PV.bool l[i].nF,PV.rs 5 (l[i].calls.map aw.pv),())) i (fun k=>decide ((l.map bh)[k]?=some (bh l[i]))) (no:=some (.int .i64 6)) (fin:=some (.int .i64 0)) (fun k hk rec=>?_) (fun rec=>?_) ?_ rfl).trans ?_
 ·have h1:decide ((k:Int)<(i:Int))=true:=by simp;omega
  have jA:k<l.length:=by omega
  have hd:decide ((l.map bh)[k]?=some (bh l[i]))=(decide (l[k].id=l[i].id)&&decide (l[k].day=l[i].day)&&decide (l[k].inst=l[i].inst)):=by rw[Bool.eq_iff_iff];simp[List.getElem?_eq_getElem jA,bh,and_assoc]
  rw[hd];unfold nG;dsimp only;rw[if_pos h1,az,List.getElem?_map,List.getElem?_eq_getElem jA];simp only[Option.map_some,U,OM,ON,OO,asInt,bx,if_true,an (show k<9223372036854775807 by omega),fa,dy]
 ·unfold nG;dsimp only;rw[if_neg (by simp)]
 ·have:=aS;omega
 ·rw[AE _ _ (by simp;omega)];simp only[decide_eq_true_eq]
theorem UB(N:ag)(hl:N.runs.length≤maxLen∧∀y∈N.runs,y.Ok)(k:Nat)(hk:k<N.runs.length):mN [N.pv,.int .i64 k]=some (.int .i64 (iW N.runs N.stops.length N.ae.length k)):=by
 have hm:=aW;have hO:=hl.2 _ (List.getElem_mem hk);simp only[mN,yE,pD,rq,rr,ru,ry,rz,rA,rB,rC,rD,U];generalize Is:N.runs=l at hl hk hO⊢;have hO':l[k].Ok:=by subst Is;exact hO
 have hid:=sw l[k].id hO'.id;have gz:=OL l[k].calls N.stops.length 0 3155932800 hO'.calls.1;have pS:=Kz N l hl.1 k hk;simp only[asInt,if_true,U,az,List.getElem?_map,List.getElem?_eq_getElem hk,Option.map_some,Uz,OM,ON,OO,UA,XH,XI,EU,bx,asBool,ab,List.length_map,hid,gz,Cb,bn,jC,pS];unfold iW;rw[List.getElem?_eq_getElem hk];simp only;have hB:(!(decide (l[k].day≥0)&&decide (l[k].day≤36524)))=(decide (l[k].day<0)||decide (l[k].day>36524)):=by rw[Bool.eq_iff_iff];simp only[Bool.or_eq_true,Bool.not_eq_true',Bool.and_eq_false_iff,decide_eq_true_eq,decide_eq_false_iff_not];omega
 rw[hB];generalize (decide (l[k].dw< -1)||decide (l[k].inst<0))=A;generalize (decide (l[k].day<0)||decide (l[k].day>36524))=B;generalize (decide (l[k].bk<0)||decide (l[k].bk≥(N.ae.length:Int)))=C;generalize (bu l[k].calls N.stops.length 0 3155932800).2=e;cases eN l[k].id with
 |false=>rfl
 |true=>
  cases A with
  |true=>rfl
  |false=>
   cases B with
   |true=>rfl
   |false=>
    cases C with
    |true=>rfl
    |false=>
     simp only[Bool.not_true,Bool.false_eq_true,Bool.true_eq_false,if_false];by_cases he:e=0
     ·subst he;by_cases bO:bh l[k]∈(l.map bh).take k
      ·simp only[bO,if_true,decide_true,Bool.not_true,Bool.false_eq_true,if_false]
      ·simp only[bO,if_true,decide_true,Bool.not_true,Bool.false_eq_true,if_false]
     ·simp only[he,if_false,if_true,decide_false,Bool.not_false]
end Go.Ab.Tt
namespace Go.Ab.Tt
set_option maxRecDepth 100000
set_option linter.unusedVariables false
set_option linter.unusedSimpArgs false
def nx(p:List aH)(v:Int):Option Int:=p.foldl (fun o x=>if(x.stay&&decide (x.a=v))=true then some x.b else o) none
theorem XJ(v:Int):nx [] v=none:=rfl
theorem pV(p:List aH)(x:aH)(v:Int):nx (p++[x]) v=if(x.stay&&decide (x.a=v))=true then some x.b else nx p v:=by unfold nx;rw[List.foldl_append];rfl
def it(f:Int→Option Int):Nat→Int→Option Int
 |0,v=>some v
 |m+1,v=>(f v).bind (it f m)
theorem MW(f:Int→Option Int)(m:Nat)(v:Int):it f (m+1) v=(it f m v).bind f:=by
 induction m generalizing v with
 |zero=>show(f v).bind (it f 0)=f v;cases h:f v<;>rfl
 |succ m ih=>
  show(f v).bind (it f (m+1))=((f v).bind (it f m)).bind f;cases h:f v with
  |none=>rfl
  |some w=>exact ih w
def lu(p:List aH)(a b:Int)(n:Nat):Bool:=(List.range n).any fun t=>decide (it (nx p) (t+1) a=some b)
def wo(f:Int→Option Int):Prop:=∃r:Int→Nat,∀v w,f v=some w→r w<r v
theorem KA:wo (nx []):=⟨fun _=>0,fun v w h=>by cases h⟩
variable{p:List aH}
theorem KB{v w:Int}(h:nx p v=some w):∃x∈p,x.stay=true∧x.a=v∧x.b=w:=by
 have key:∀n,n≤p.length→nx (p.take n) v=some w→∃x∈p,x.stay=true∧x.a=v∧x.b=w:=by
  intro n;induction n with
  |zero=>intro _ h;cases h
  |succ n ih=>
   intro hn h;have NW:n<p.length:=by omega
   rw[List.take_succ_eq_append_getElem NW,pV]at h;by_cases hc:(p[n].stay&&decide (p[n].a=v))=true
   ·rw[if_pos hc]at h;simp only[Bool.and_eq_true,decide_eq_true_eq]at hc;exact⟨p[n],List.getElem_mem NW,hc.1,hc.2,by simpa using h⟩
   ·rw[if_neg hc]at h;exact ih (by omega) h
 exact key p.length (Nat.le_refl _) (by rw[List.take_length];exact h)
theorem KC{f:Int→Option Int}(hf:wo f)(S:List Int)(hS:∀v w,f v=some w→v∈S):∀m v,it f m v≠none→m≤S.length:=by
 obtain⟨r,hr⟩:=hf;induction hn:S.length generalizing S f r with
 |zero=>
  intro m v h;cases m with
  |zero=>omega
  |succ m=>
   exfalso;cases XK:f v with
   |none=>exact h (by show(f v).bind _=none;rw[XK];rfl)
   |some w=>have:=hS v w XK;rw[List.length_eq_zero_iff.1 hn]at this;cases this
 |succ n ih=>
  intro m v h;cases m with
  |zero=>omega
  |succ m=>
   cases XK:f v with
   |none=>exact absurd (by show(f v).bind _=none;rw[XK];rfl) h
   |some w=>
    have hvS:=hS v w XK;let g:Int→Option Int:=fun x=>if x=v then none else f x;have hg:∀x y,g x=some y→r y<r x:=fun x y UC=>by
     by_cases hx:x=v
     ·simp[g,hx]at UC
     ·simp only[g,hx,if_false]at UC;exact hr x y UC
    have hgS:∀x y,g x=some y→x∈S.erase v:=fun x y UC=>by
     by_cases hx:x=v
     ·simp[g,hx]at UC
     ·simp only[g,hx,if_false]at UC;exact(List.mem_erase_of_ne hx).2 (hS x y UC)
    have hlen:(S.erase v).length=n:=by rw[List.length_erase_of_mem hvS];omega
    have Q1:∀k x,r x<r v→it g k x=it f k x:=by
     intro k;induction k with
     |zero=>intros;rfl
     |succ k WL=>
      intro x hx;have hxv:x≠v:=fun h=>by subst h;omega
      show(g x).bind (it g k)=(f x).bind (it f k);have:g x=f x:=by simp[g,hxv]
      rw[this];cases hfx:f x with
      |none=>rfl
      |some y=>exact WL y (by have:=hr x y hfx;omega)
    have hw:it f m w≠none:=by intro hc;apply h;show(f v).bind (it f m)=none;rw[XK];exact hc
    have:=ih (S.erase v) hgS r hg hlen m w (by rw[Q1 m w (hr v w XK)];exact hw);omega
theorem EY(hp:wo (nx p)){m:Nat}(hm:p.length<m)(v:Int):it (nx p) m v=none:=by
 cases h:it (nx p) m v with
 |none=>rfl
 |some w=>have:=KC hp (p.map aH.a) (fun x y UC=>by obtain⟨l,h1,h2,h3,h4⟩:=KB UC;exact List.mem_map.2 ⟨l,h1,h3⟩) m v (by rw[h];exact fun h=>nomatch h);rw[List.length_map]at this;omega
theorem He(hp:wo (nx p))(x:aH)(h:x.stay=false∨(x.a≠x.b∧nx p x.a=none∧lu p x.b x.a (p.length+1)=false)):wo (nx (p++[x])):=by
 cases hs:x.stay with
 |false=>obtain⟨r,hr⟩:=hp;refine⟨r,fun v w MX=>hr v w ?_⟩;rw[pV,hs,Bool.false_and,if_neg (by simp)]at MX;exact MX
 |true=>
  rw[hs]at h;rcases h with h|⟨qN,hna,RR⟩
  ·cases h
  have CG:=hp;obtain⟨r,hr⟩:=hp;have yr:∀t,it (nx p) (t+1) x.b≠some x.a:=by
   intro t ht;by_cases br:t<p.length+1
   ·unfold lu at RR;rw[List.any_eq_false]at RR;exact RR t (by simpa using br) (by simpa using ht)
   ·rw[EY CG (by omega)]at ht;cases ht
  let R:Int→Prop:=fun v=>∃t,it (nx p) t v=some x.a;have hRb:¬R x.b:=fun⟨t,ht⟩=>by
   cases t with
   |zero=>exact qN (by simpa[it]using ht.symm)
   |succ t=>exact yr t ht
  refine⟨fun v=>open Classical in if R v then r v+r x.b+1 else r v,fun v w MX=>?_⟩;rw[pV,hs,Bool.true_and]at MX;by_cases hv:x.a=v
  ·rw[if_pos (by simpa using hv)]at MX;simp only[Option.some.injEq]at MX;subst MX;have Y4:R v:=⟨0,by show some v=some x.a;rw[hv]⟩;show(open Classical in if R x.b then r x.b+r x.b+1 else r x.b)<(open Classical in if R v then r v+r x.b+1 else r v);rw[if_neg hRb,if_pos Y4];omega
  ·rw[if_neg (by simpa using hv)]at MX;have br:=hr v w MX;show(open Classical in if R w then r w+r x.b+1 else r w)<(open Classical in if R v then r v+r x.b+1 else r v);by_cases hw:R w
   ·have Y4:R v:=by obtain⟨t,ht⟩:=hw;exact⟨t+1,by show(nx p v).bind (it (nx p) t)=some x.a;rw[MX];exact ht⟩
    rw[if_pos hw,if_pos Y4];omega
   ·rw[if_neg hw];by_cases Y4:R v
    ·rw[if_pos Y4];omega
    ·rw[if_neg Y4];exact br
end Go.Ab.Tt
namespace Go.Ab.Tt
set_option maxRecDepth 100000
set_option linter.unusedVariables false
set_option linter.unusedSimpArgs false
def pW(a:Int):PV:=.int .i64 a
def cn(x:aH):Int×Int×Int×Int:=(x.a,x.ac,x.b,x.bc)
def Hf(x:Int×Int×Int×Int):PV:=.agg [.int .i64 x.1,.int .i64 x.2.1,.int .i64 x.2.2.1,.int .i64 x.2.2.2]
theorem RS(a b:Int×Int×Int×Int):cB (Hf a).cells (Hf b).cells=decide (a=b):=by obtain⟨a1,a2,a3,a4⟩:=a;obtain⟨b1,b2,b3,b4⟩:=b;rw[Bool.eq_iff_iff];simp[Hf,PV.cells,cB,peq]
def vL(p:List aH):List (Int×PV):=p.foldl (fun m x=>if x.stay=true then wq x.a (.int .i64 x.b) m else m) []
theorem wu(p:List aH)(x:aH):vL (p++[x])=if x.stay=true then wq x.a (.int .i64 x.b) (vL p)else vL p:=by unfold vL;rw[List.foldl_append];rfl
def KD(a:Int)(m:List (Int×PV)):Bool:=m.any fun x=>decide (a=x.1)
theorem MY(a:Int):∀m,sS (pW a) (sM pW m)=KD a m
 |[]=>rfl
 |(b,u)::r=>by have:=MY a r;simp only[sM]at this;simp only[sM,List.map_cons,sS,KD,List.any_cons];rw[this];have:cB (pW a).cells (pW b).cells=decide (a=b):=xq a b;rw[this];rfl
theorem Hg(a b:Int)(v:PV):∀m,KD a (wq b v m)=(decide (a=b)||KD a m)
 |[]=>by simp[KD,wq]
 |(c,u)::r=>by
  have:=Hg a b v r;simp only[KD]at this⊢;by_cases h:b=c
  ·subst h;simp[wq]
  ·simp only[wq,h,if_false,List.any_cons,this];cases decide (a=c)<;>simp
theorem ub{A:Type}{P:List A→Prop}(h0:P [])(h1:∀p x,P p→P (p++[x]))(l:List A):P l:=by
 have key:∀n,n≤l.length→P (l.take n):=by
  intro n;induction n with
  |zero=>intro _;rw[List.take_zero];exact h0
  |succ n ih=>intro hn;rw[List.take_succ_eq_append_getElem (show n<l.length by omega)];exact h1 _ _ (ih (by omega))
 have:=key l.length (Nat.le_refl _);rw[List.take_length]at this;exact this
theorem OS(p:List aH)(v:Int):uc v (.int .i64 0) (vL p)=.int .i64 ((nx p v).getD 0):=by
 induction p using ub with
 |h0=>rfl
 |h1 p x ih=>
  rw[wu,pV];cases hs:x.stay with
  |false=>rw[if_neg (by simp),Bool.false_and,if_neg (by simp)];exact ih
  |true=>
   rw[if_pos rfl,yI,Bool.true_and];by_cases h:x.a=v
   ·rw[if_pos h.symm,if_pos (by simpa using h)];rfl
   ·rw[if_neg (fun hc=>h hc.symm),if_neg (by simpa using h)];exact ih
theorem RT(p:List aH)(v:Int):KD v (vL p)=(nx p v).isSome:=by
 induction p using ub with
 |h0=>rfl
 |h1 p x ih=>
  rw[wu,pV];cases hs:x.stay with
  |false=>rw[if_neg (by simp),Bool.false_and,if_neg (by simp)];exact ih
  |true=>
   rw[if_pos rfl,Hg,Bool.true_and];by_cases h:x.a=v
   ·rw[if_pos (by simpa using h)];simp[h]
   ·rw[if_neg (by simpa using h),ih];have:decide (v=x.a)=false:=by simpa using fun hc=>h hc.symm
    rw[this,Bool.false_or]
def mO(p:List aH):List (PV×PV):=sM pW (vL p)
theorem wv(p:List aH)(v:Int):dL (.int .i64 v) (.int .i64 0) (mO p)=.int .i64 ((nx p v).getD 0):=by have:=Cg (key:=pW) xq v (.int .i64 0) (vL p);rw[OS]at this;exact this
theorem yJ(p:List aH)(v:Int):sS (.int .i64 v) (mO p)=(nx p v).isSome:=by have:=MY v (vL p);rw[RT]at this;exact this
theorem KE(p:List aH)(x:aH):mO (p++[x])=if x.stay=true then eO (.int .i64 x.a) (.int .i64 x.b) (mO p)else mO p:=by
 have:=EZ (key:=pW) xq x.a (.int .i64 x.b) (vL p);unfold mO;rw[wu];by_cases h:x.stay=true
 ·rw[if_pos h,if_pos h];exact this.symm
 ·rw[if_neg h,if_neg h]
def jH(p:List aH):List Int:=(p.filter aH.stay).map aH.b
theorem KF(p:List aH)(x:aH):jH (p++[x])=if x.stay=true then jH p++[x.b]else jH p:=by unfold jH;by_cases h:x.stay=true<;>simp[List.filter_append,List.filter_cons,h]
theorem OT(p:List aH)(v:Int):(nx p v).isSome=p.any fun y=>y.stay&&decide (y.a=v):=by
 induction p using ub with
 |h0=>rfl
 |h1 p x ih=>
  rw[pV,List.any_append,←ih];by_cases h:(x.stay&&decide (x.a=v))=true
  ·rw[if_pos h];simp only[List.any_cons,List.any_nil,h];simp
  ·rw[if_neg h];simp only[List.any_cons,List.any_nil,h];simp
theorem RU(p:List aH)(v:Int):decide (v∈jH p)=p.any fun y=>y.stay&&decide (y.b=v):=by
 rw[Bool.eq_iff_iff,decide_eq_true_eq];simp only[jH,decide_eq_true_eq,List.mem_map,List.mem_filter,List.any_eq_true,Bool.and_eq_true];constructor
 ·rintro⟨x,⟨h1,h2⟩,h3⟩;exact⟨x,h1,h2,h3⟩
 ·rintro⟨x,h1,h2,h3⟩;exact⟨x,⟨h1,h2⟩,h3⟩
def XL(f:Int→Option Int)(a b:Int)(t:Nat):Option (Option PV):=(it f (t+1) a).elim (some (some (.bool false))) fun v=>if v=b then some (some (.bool true))else none
theorem KG(f:Int→Option Int)(b:Int)(n:Nat):∀a,it f (n+1) a=none→c9 ((List.range n).findSome? (XL f a b)) (some (.bool false))=some (.bool ((List.range (n+1)).any fun t=>decide (it f (t+1) a=some b))):=by
 induction n with
 |zero=>intro a h;simp[c9,h]
 |succ n ih=>
  intro a h;rw[List.range_succ_eq_map (n:=n+1),List.range_succ_eq_map (n:=n),List.findSome?_cons,List.any_cons];have h0:it f (0+1) a=f a:=by show(f a).bind (it f 0)=f a;cases hf:f a<;>rfl
  unfold XL;rw[h0];cases hf:f a with
  |none=>
   have hz:∀t,it f (t+1) a=none:=fun t=>by show(f a).bind _=none;rw[hf];rfl
   simp only[Option.elim,c9,List.any_map,Function.comp_def,hz];simp
  |some v=>
   have hs:∀t,it f (t+1+1) a=it f (t+1) v:=fun t=>by show(f a).bind _=_;rw[hf];rfl
   by_cases hv:v=b
   ·subst hv;simp only[Option.elim,if_true,c9,decide_true,Bool.true_or]
   ·have hd:decide (some v=some b)=false:=by simpa using hv
    simp only[Option.elim,if_neg hv,hd,Bool.false_or];have:=ih v (by rw[←hs];exact h);rw[List.findSome?_map,List.any_map];simp only[Function.comp_def,Nat.succ_eq_add_one,hs];rw[←List.range_succ_eq_map];exact this
theorem KH(p:List aH)(hp:wo (nx p))(hl:p.length≤maxLen)(a b:Int):eT [.rm 3 ((mO p).map fun x=>x.fst) ((mO p).map fun x=>x.snd),.int .i64 a,.int .i64 b]=some (.bool (lu p a b (p.length+1))):=by
 have hz:((mO p).map fun x=>x.fst).zip ((mO p).map fun x=>x.snd)=mO p:=by
  generalize mO p=m;induction m with
  |nil=>rfl
  |cons x m ih=>simp only[List.map_cons,List.zip_cons_cons,ih]
 simp only[eT,qx,dQ,if_true,asInt,U,hz,wv,yJ];unfold lu;rw[←KG (nx p) b p.length a (EY hp (by omega) a)];refine aX (fun t=>(PV.rm 3 ((mO p).map fun x=>x.fst) ((mO p).map fun x=>x.snd),b,(it (nx p) (t+1) a).getD 0,(it (nx p) (t+1) a).isSome,())) p.length _ (fun t ht rec=>?_) (fun rec=>?_) (by have:=aS;omega) ?_
 ·unfold jg XL;dsimp only;rw[MW (nx p) (t+1) a];cases hv:it (nx p) (t+1) a with
  |none=>rfl
  |some v=>
   simp only[Option.isSome_some,Option.getD_some,if_true,fa,decide_eq_true_eq,Option.elim];by_cases UD:v=b
   ·rw[if_pos UD,if_pos UD];rfl
   ·rw[if_neg UD,if_neg UD];simp only[dQ,if_true,hz,wv,yJ,asInt,U,c9,Option.bind_some]
 ·unfold jg;dsimp only;rw[EY hp (by omega)];rfl
 ·show(_,b,(it (nx p) 1 a).getD 0,(it (nx p) 1 a).isSome,())=_;have:it (nx p) 1 a=nx p a:=by show(nx p a).bind _=_;cases nx p a<;>rfl
  rw[this]
def aC(runs:List bA)(a:Int):List aw:=((runs[a.toNat]?).map bA.calls).getD []
def eX(cs:List aw)(c:Int):Int:=((cs[c.toNat]?).map aw.stop).getD 0
def ud(x:aH)(R:Int):Bool:= !(decide (x.a≥0)&&decide (x.a<R))|| !(decide (x.b≥0)&&decide (x.b<R))||decide (x.a=x.b)
def ue(x:aH)(A B:Int):Bool:= !(decide (x.ac≥0)&&decide (x.ac<A))|| !(decide (x.bc≥0)&&decide (x.bc<B))
def pe(p:List aH)(x:aH)(A:Int):Bool:=x.stay&&(!decide (x.ac+1=A)|| !decide (x.bc=0)||(nx p x.a).isSome||decide (x.b∈jH p)||lu p x.b x.a (p.length+1))
def cD(runs:List bA)(l:List aH)(k:Nat):Int:=match l[k]? with
 |none=>0
 |some x=>if ud x runs.length=true then 9 else if ue x (aC runs x.a).length (aC runs x.b).length=true then 9 else if eX (aC runs x.a) x.ac≠eX (aC runs x.b) x.bc then 13 else if pe (l.take k) x (aC runs x.a).length=true then 19 else if cn x∈(l.map cn).take k then 6 else 0
def gV(runs:List bA)(l:List aH):Int×Int:=if l.length>1024 then(0,5)else bV (cD runs l) l.length
theorem Ch(runs:List bA)(l:List aH)(k:Nat)(hk:k≤l.length)(h:∀j,j<k→cD runs l j=0):wo (nx (l.take k))∧∀x∈l.take k,0≤x.a:=by
 induction k with
 |zero=>rw[List.take_zero];exact⟨KA,fun x hx=>by cases hx⟩
 |succ k ih=>
  have jA:k<l.length:=by omega
  obtain⟨h1,h2⟩:=ih (by omega) fun j hj=>h j (by omega);have hz:=h k (by omega);unfold cD at hz;rw[List.getElem?_eq_getElem jA]at hz;simp only at hz;have hr:ud l[k] runs.length=false:=by
   cases hr:ud l[k] runs.length with
   |false=>rfl
   |true=>rw[hr,if_pos rfl]at hz;cases hz
  have hs:pe (l.take k) l[k] (aC runs l[k].a).length=false:=by
   cases hs:pe (l.take k) l[k] (aC runs l[k].a).length with
   |false=>rfl
   |true=>
    rw[hs]at hz;split at hz
    ·cases hz
    ·split at hz
     ·cases hz
     ·split at hz
      ·cases hz
      ·rw[if_pos rfl]at hz;cases hz
  unfold ud at hr;simp only[Bool.or_eq_false_iff,Bool.not_eq_false',Bool.and_eq_true,decide_eq_true_eq,decide_eq_false_iff_not]at hr;rw[List.take_succ_eq_append_getElem jA];refine⟨He h1 l[k] ?_,fun x hx=>?_⟩
  ·unfold pe at hs;cases sZ:l[k].stay with
   |false=>exact Or.inl rfl
   |true=>
    rw[sZ,Bool.true_and]at hs;simp only[Bool.or_eq_false_iff]at hs;refine Or.inr ⟨hr.2,?_,hs.2⟩;have:=hs.1.1.2;cases hn:nx (l.take k) l[k].a with
    |none=>rfl
    |some w=>rw[hn]at this;cases this
  ·rcases List.mem_append.1 hx with hx|hx
   ·exact h2 x hx
   ·rw[List.mem_singleton]at hx;subst hx;exact hr.1.1.1
theorem xr(runs:List bA)(a:Int)(h:0≤a∧a<(runs.length:Int)):∃r∈runs,bd (runs.map bA.pv) a=some r.pv∧aC runs a=r.calls:=by
 obtain⟨n,rfl⟩:=Int.eq_ofNat_of_zero_le h.1;have hn:n<runs.length:=by omega
 refine⟨runs[n],List.getElem_mem hn,?_,?_⟩
 ·rw[az,List.getElem?_map,List.getElem?_eq_getElem hn];rfl
 ·unfold aC;rw[Int.toNat_natCast,List.getElem?_eq_getElem hn];rfl
theorem vc(cs:List aw)(c:Int)(h:0≤c∧c<(cs.length:Int)):∃r,bd (cs.map aw.pv) c=some r∧cell r 0=.int .i64 (eX cs c):=by
 obtain⟨n,rfl⟩:=Int.eq_ofNat_of_zero_le h.1;have hn:n<cs.length:=by omega
 refine⟨cs[n].pv,?_,?_⟩
 ·rw[az,List.getElem?_map,List.getElem?_eq_getElem hn];rfl
 ·unfold eX;rw[Int.toNat_natCast,List.getElem?_eq_getElem hn];rfl
end Go.Ab.Tt
namespace Go.Ab.Tt
set_option maxRecDepth 100000
set_option linter.unusedVariables false
set_option linter.unusedSimpArgs false
theorem uf{runs:List bA}(h:∀y∈runs,y.Ok)(a:Int):(aC runs a).length≤maxLen:=by
 unfold aC;cases hr:runs[a.toNat]? with
 |none=>simp
 |some r=>exact(h r (List.mem_of_getElem? hr)).calls.1
theorem Hh(N:ag)(runs:List bA)(hr:∀y∈runs,y.Ok)(l:List aH)(hl:l.length≤maxLen)(k:Nat)(hk:k<l.length)(Ai:∀j,j<k→cD runs l j=0)(rec:TY0→Option PV):fA (l.map aH.pv,(l.length:Int),(k:Int),N.stops.map Stop.pv,N.ae.map av.pv,runs.map bA.pv,l.map aH.pv,N.paths.map Path.pv,N.ar.map aR.pv,N.aO,N.within,N.cap,0,0,0,mO (l.take k),seen pW (jH (l.take k)),seen Hf ((l.map cn).take k),()) rec=c9 (if cD runs l k=0 then none else some (some (r3 3 k (cD runs l k)))) (rec (l.map aH.pv,(l.length:Int),((k+1:Nat):Int),N.stops.map Stop.pv,N.ae.map av.pv,runs.map bA.pv,l.map aH.pv,N.paths.map Path.pv,N.ar.map aR.pv,N.aO,N.within,N.cap,0,0,0,mO (l.take (k+1)),seen pW (jH (l.take (k+1))),seen Hf ((l.map cn).take (k+1)),())):=by
 have hm:=aW;have h1:decide ((k:Int)<(l.length:Int))=true:=by simp;omega
 obtain⟨aaA,_⟩:=Ch runs l k (by omega) Ai;have hlen:(l.take k).length=k:=by simp;omega
 have yK:=KH (l.take k) aaA (by omega) l[k].b l[k].a;have qu:eO (.agg [.int .i64 l[k].a,.int .i64 l[k].ac,.int .i64 l[k].b,.int .i64 l[k].bc]) (.bool true) (seen Hf ((l.map cn).take k))=_:=mM RS (cn l[k]) ((l.map cn).take k);have rn:dL (.agg [.int .i64 l[k].a,.int .i64 l[k].ac,.int .i64 l[k].b,.int .i64 l[k].bc]) (.bool false) (seen Hf ((l.map cn).take k))=_:=kE RS (cn l[k]) ((l.map cn).take k);have aaB:eO (.int .i64 l[k].b) (.bool true) (seen pW (jH (l.take k)))=_:=mM (key:=pW) xq l[k].b (jH (l.take k));have XM:dL (.int .i64 l[k].b) (.bool false) (seen pW (jH (l.take k)))=_:=kE (key:=pW) xq l[k].b (jH (l.take k));have hsn:l.take (k+1)=l.take k++[l[k]]:=List.take_succ_eq_append_getElem hk;unfold fA;dsimp only;rw[if_pos h1,az,List.getElem?_map,List.getElem?_eq_getElem hk,hsn,KE,KF,oV cn l k hk];simp only[Option.map_some,U,DL,MR,link2,MS,G3,asInt,asBool,if_true,List.length_map,wm,bn,fa];unfold cD;rw[List.getElem?_eq_getElem hk];simp only;have hR:(!(decide (l[k].a≥0)&&decide (l[k].a<(runs.length:Int)))|| !(decide (l[k].b≥0)&&decide (l[k].b<(runs.length:Int)))||decide (l[k].a=l[k].b))=ud l[k] runs.length:=rfl;rw[hR];cases hb:ud l[k] runs.length with
 |true=>simp only[if_true,Ce,U,MU,xn,wI,Al];rfl
 |false=>
  unfold ud at hb;simp only[Bool.or_eq_false_iff,Bool.not_eq_false',Bool.and_eq_true,decide_eq_true_eq,decide_eq_false_iff_not]at hb;obtain⟨ra,hra,hia,WW⟩:=xr runs l[k].a ⟨hb.1.1.1,hb.1.1.2⟩;obtain⟨rb,Iy,Vx,OU⟩:=xr runs l[k].b ⟨hb.1.2.1,hb.1.2.2⟩;have hA:=uf hr l[k].a;rw[hia,Vx];simp only[U,EU,ab,if_true,List.length_map,←WW,←OU,wm,asBool,bn];have hC:(!(decide (l[k].ac≥0)&&decide (l[k].ac<((aC runs l[k].a).length:Int)))|| !(decide (l[k].bc≥0)&&decide (l[k].bc<((aC runs l[k].b).length:Int))))=ue l[k] (aC runs l[k].a).length (aC runs l[k].b).length:=rfl;rw[hC];cases B6:ue l[k] (aC runs l[k].a).length (aC runs l[k].b).length with
  |true=>simp only[if_true,Ce,U,MU,xn,wI,Al];rfl
  |false=>
   unfold ue at B6;simp only[Bool.or_eq_false_iff,Bool.not_eq_false',Bool.and_eq_true,decide_eq_true_eq]at B6;obtain⟨ka,WS,hsa⟩:=vc (aC runs l[k].a) l[k].ac B6.1;obtain⟨kb,Z9,WX⟩:=vc (aC runs l[k].b) l[k].bc B6.2;have hw:IntKind.i64.wrap (l[k].ac+1)=l[k].ac+1:=fy (by omega) (by omega);simp only[Bool.false_eq_true,if_false,WS,Z9,U,hsa,WX,wv,yJ,rn,XM,qu,aaB,asInt,asBool,if_true,yK,hw,hlen,bn,dy,jC,Ce,MU,xn,wI,Al,an (show k<9223372036854775807 by omega)];have hS:(l[k].stay&&(!decide (l[k].ac+1=((aC runs l[k].a).length:Int))|| !decide (l[k].bc=0)||(nx (l.take k) l[k].a).isSome||decide (l[k].b∈jH (l.take k))||lu (l.take k) l[k].b l[k].a (k+1)))=pe (l.take k) l[k] (aC runs l[k].a).length:=by unfold pe;rw[hlen]
   rw[hS];generalize pe (l.take k) l[k] (aC runs l[k].a).length=S;by_cases sZ:eX (aC runs l[k].a) l[k].ac=eX (aC runs l[k].b) l[k].bc
   ·simp only[sZ,decide_true,Bool.not_true,Bool.false_eq_true,if_false,ne_eq,not_true];cases S with
    |true=>rfl
    |false=>
     by_cases bO:cn l[k]∈(l.map cn).take k
     ·simp only[bO,decide_true,if_true,Bool.false_eq_true,if_false];rfl
     ·simp only[bO,decide_false,if_true,Bool.false_eq_true,if_false];cases l[k].stay<;>rfl
   ·simp only[sZ,decide_false,Bool.not_false,if_true,ne_eq,not_false_eq_true];rfl
theorem CV(N:ag)(hr:N.runs.length≤maxLen∧∀y∈N.runs,y.Ok)(hl:N.ah.length≤maxLen):cw [N.pv]=some (prt 3 (gV N.runs N.ah)):=by
 have hm:=aW;simp only[cw,ke,pD,rq,rr,ru,ry,rz,rA,rB,rC,rD,U,List.length_map];generalize Is:N.ah=l at hl⊢;generalize qM:N.runs=runs at hr⊢;unfold gV;by_cases s9:l.length>1024
 ·rw[if_pos (by simp;omega),if_pos s9];rfl
 ·rw[if_neg (by simp;omega),if_neg s9];have hR:some (prt 3 (bV (cD runs l) l.length))=if(bV (cD runs l) l.length).2=0 then some (r3 0 0 0)else some (r3 3 (bV (cD runs l) l.length).1 (bV (cD runs l) l.length).2):=by
   unfold prt;by_cases h:(bV (cD runs l) l.length).2=0
   ·rw[if_pos h,if_pos h]
   ·rw[if_neg h,if_neg h]
  rw[hR,←hZ (cD runs l) l.length (fun i e=>r3 3 i e)];refine vK (fun k=>(l.map aH.pv,(l.length:Int),(k:Int),N.stops.map Stop.pv,N.ae.map av.pv,runs.map bA.pv,l.map aH.pv,N.paths.map Path.pv,N.ar.map aR.pv,N.aO,N.within,N.cap,0,0,0,mO (l.take k),seen pW (jH (l.take k)),seen Hf ((l.map cn).take k),())) l.length _ (fun k hk Ai rec=>Hh N runs hr.2 l hl k hk (fun j hj=>?_) rec) (fun _ rec=>?_) (by have:=aS;omega) rfl
  ·have:=Ai j hj;by_cases h0:cD runs l j=0
   ·exact h0
   ·rw[if_neg h0]at this;cases this
  ·unfold fA;dsimp only;rw[if_neg (by simp)];rfl
theorem OV(N:ag)(i:Nat)(hi:i<N.ah.length)(hl:N.ah.length≤maxLen)(hp:∀x∈N.ah.take i,0≤x.a)(a b:Int)(hb:0≤b):jI [N.pv,.int .i64 i,.int .i64 a,.int .i64 b]=some (.bool (lu (N.ah.take i) a b (i+1))):=by
 have hm:=aW;simp only[jI,tO,pD,rq,rr,ru,ry,rz,rA,rB,rC,rD,U];simp only[asInt,if_true,U];generalize Is:N.ah=l at hl hi hp⊢;have aew:nx (l.take i) (-1)=none:=by
  cases hn:nx (l.take i) (-1)with
  |none=>rfl
  |some w=>obtain⟨x,hx,_,hxa,_⟩:=KB hn;have:=hp x hx;omega
 have tq:∀t,(nx (l.take i) ((it (nx (l.take i)) t a).getD (-1))).getD (-1)=(it (nx (l.take i)) (t+1) a).getD (-1):=by
  intro t;rw[MW];cases it (nx (l.take i)) t a with
  |none=>simp only[Option.getD_none,Option.bind_none,aew]
  |some v=>rfl
 have pS:∀(c:Int)(t:Nat)fe,cd.run (lv fe) ((i:Int),c,b,(t:Int),-1,0,N.stops.map Stop.pv,N.ae.map av.pv,N.runs.map bA.pv,l.map aH.pv,N.paths.map Path.pv,N.ar.map aR.pv,N.aO,N.within,N.cap,())=if(nx (l.take i) c).getD (-1)=b then some (.bool true)else fe ((i:Int),(nx (l.take i) c).getD (-1),b,IntKind.i64.wrap ((t:Int)+1),N.stops.map Stop.pv,N.ae.map av.pv,N.runs.map bA.pv,l.map aH.pv,N.paths.map Path.pv,N.ar.map aR.pv,N.aO,N.within,N.cap,()):=by
  intro c t fe;refine bL (fun k=>((i:Int),c,b,(t:Int),(nx (l.take k) c).getD (-1),(k:Int),N.stops.map Stop.pv,N.ae.map av.pv,N.runs.map bA.pv,l.map aH.pv,N.paths.map Path.pv,N.ar.map aR.pv,N.aO,N.within,N.cap,())) i (fun k hk rec=>?_) (fun rec=>?_) (by have:=aS;omega) (by rw[List.take_zero,XJ];rfl)
  ·have h1:decide ((k:Int)<(i:Int))=true:=by simp;omega
   have jA:k<l.length:=by omega
   unfold lv;dsimp only;rw[if_pos h1,az,List.getElem?_map,List.getElem?_eq_getElem jA,List.take_succ_eq_append_getElem jA,pV];simp only[Option.map_some,U,DL,link2,G3,asInt,asBool,if_true,dy,fa,an (show k<9223372036854775807 by omega)];by_cases hc:(l[k].stay&&decide (l[k].a=c))=true
   ·rw[if_pos hc,if_pos hc];rfl
   ·rw[if_neg hc,if_neg hc]
  ·unfold lv;dsimp only;rw[if_neg (by simp)];simp only[fa,decide_eq_true_eq]
 unfold lu;have lZ:cd.run (lx cd) ((i:Int),a,b,0,N.stops.map Stop.pv,N.ae.map av.pv,N.runs.map bA.pv,l.map aH.pv,N.paths.map Path.pv,N.ar.map aR.pv,N.aO,N.within,N.cap,())=if((List.range (i+1)).any fun t=>decide (it (nx (l.take i)) (t+1) a=some b))=true then some (PV.bool true)else some (PV.bool false):=by
  refine oY (fun t:Nat=>((i:Int),(it (nx (l.take i)) t a).getD (-1),b,(t:Int),N.stops.map Stop.pv,N.ae.map av.pv,N.runs.map bA.pv,l.map aH.pv,N.paths.map Path.pv,N.ar.map aR.pv,N.aO,N.within,N.cap,())) (i+1) (fun t=>decide (it (nx (l.take i)) (t+1) a=some b)) (no:=some (PV.bool true)) (fin:=some (PV.bool false)) (fun t ht rec=>?_) (fun rec=>?_) (by have:=aS;omega) rfl
  ·have h1:decide ((t:Int)≤(i:Int))=true:=by simp;omega
   unfold lx;dsimp only;rw[if_pos h1,pS,tq,an (by omega)];cases hv:it (nx (l.take i)) (t+1) a with
   |none=>rw[if_neg (by simp only[Option.getD_none];omega),if_neg (by simp)]
   |some v=>
    by_cases UD:v=b
    ·rw[if_pos (by simpa using UD),if_pos (by simpa using UD)]
    ·rw[if_neg (by simpa using UD),if_neg (by simpa using UD)]
  ·unfold lx;dsimp only;rw[if_neg (by simp;omega)]
 rw[lZ];cases(List.range (i+1)).any fun t=>decide (it (nx (l.take i)) (t+1) a=some b)<;>rfl
theorem OW(l:List aH)(P:aH→Bool)(k:Nat)(hk:k≤l.length):((List.range k).any fun j=>(l[j]?).elim false P)=(l.take k).any P:=by
 induction k with
 |zero=>rfl
 |succ k ih=>
  have jA:k<l.length:=by omega
  rw[List.range_succ,List.any_append,ih (by omega),List.take_succ_eq_append_getElem jA,List.any_append];simp only[List.any_cons,List.any_nil,List.getElem?_eq_getElem jA,Option.elim]
theorem RV(N:ag)(hr:N.runs.length≤maxLen∧∀y∈N.runs,y.Ok)(hl:N.ah.length≤maxLen)(k:Nat)(hk:k<N.ah.length)(Ai:∀j,j<k→cD N.runs N.ah j=0):ly [N.pv,.int .i64 k]=some (.int .i64 (cD N.runs N.ah k)):=by
 have hm:=aW;obtain⟨_,ep⟩:=Ch N.runs N.ah k (by omega) Ai;have yK:=fun a b hb=>OV N k hk hl ep a b hb;have hE:=yF N;simp only[ly,wg,pD,rq,rr,ru,ry,rz,rA,rB,rC,rD,U];rw[←yF N]at yK;generalize Is:N.ah=l at hl hk ep yK⊢;generalize qM:N.runs=runs at hr yK⊢;have hw0:IntKind.i64.wrap ((runs.length:Int)-1)=(runs.length:Int)-1:=fy (by omega) (by omega);simp only[asInt,if_true,U,az,List.getElem?_map,List.getElem?_eq_getElem hk,Option.map_some,DL,MR,link2,MS,G3,asBool,List.length_map,hw0,Cb,bn,fa];unfold cD;rw[List.getElem?_eq_getElem hk];simp only;have hR:(!(decide (l[k].a≥0)&&decide (l[k].a≤(runs.length:Int)-1))|| !(decide (l[k].b≥0)&&decide (l[k].b≤(runs.length:Int)-1))||decide (l[k].a=l[k].b))=ud l[k] runs.length:=by unfold ud;rw[Bool.eq_iff_iff];simp only[Bool.or_eq_true,Bool.not_eq_true',Bool.and_eq_false_iff,decide_eq_true_eq,decide_eq_false_iff_not];omega
 rw[hR];cases hb:ud l[k] runs.length with
 |true=>simp only[if_true]
 |false=>
  unfold ud at hb;simp only[Bool.or_eq_false_iff,Bool.not_eq_false',Bool.and_eq_true,decide_eq_true_eq,decide_eq_false_iff_not]at hb;obtain⟨ra,hra,hia,WW⟩:=xr runs l[k].a ⟨hb.1.1.1,hb.1.1.2⟩;obtain⟨rb,Iy,Vx,OU⟩:=xr runs l[k].b ⟨hb.1.2.1,hb.1.2.2⟩;have hA:=uf hr.2 l[k].a;have hB:=uf hr.2 l[k].b;rw[hia,Vx];simp only[U,EU,ab,if_true,List.length_map,←WW,←OU];have hwA:IntKind.i64.wrap (((aC runs l[k].a).length:Int)-1)=((aC runs l[k].a).length:Int)-1:=fy (by omega) (by omega);have hwB:IntKind.i64.wrap (((aC runs l[k].b).length:Int)-1)=((aC runs l[k].b).length:Int)-1:=fy (by omega) (by omega);simp only[hwA,hwB,Cb,asBool,U,bn];have hC:(!(decide (l[k].ac≥0)&&decide (l[k].ac≤((aC runs l[k].a).length:Int)-1))|| !(decide (l[k].bc≥0)&&decide (l[k].bc≤((aC runs l[k].b).length:Int)-1)))=ue l[k] (aC runs l[k].a).length (aC runs l[k].b).length:=by unfold ue;rw[Bool.eq_iff_iff];simp only[Bool.or_eq_true,Bool.not_eq_true',Bool.and_eq_false_iff,decide_eq_true_eq,decide_eq_false_iff_not];omega
  rw[hC];cases B6:ue l[k] (aC runs l[k].a).length (aC runs l[k].b).length with
  |true=>simp only[if_true,Bool.false_eq_true,if_false]
  |false=>
   unfold ue at B6;simp only[Bool.or_eq_false_iff,Bool.not_eq_false',Bool.and_eq_true,decide_eq_true_eq]at B6;obtain⟨ka,WS,hsa⟩:=vc (aC runs l[k].a) l[k].ac B6.1;obtain⟨kb,Z9,WX⟩:=vc (aC runs l[k].b) l[k].bc B6.2;simp only[Bool.false_eq_true,if_false,WS,Z9,U,hsa,WX,asInt,asBool,if_true,bn,dy,jC];by_cases sZ:eX (aC runs l[k].a) l[k].ac=eX (aC runs l[k].b) l[k].bc
   ·simp only[sZ,decide_true,Bool.not_true,Bool.false_eq_true,if_false,ne_eq,not_true];have aaC:cd.run mz ((k:Int),0,N.stops.map Stop.pv,N.ae.map av.pv,runs.map bA.pv,l.map aH.pv,N.paths.map Path.pv,N.ar.map aR.pv,N.aO,N.within,N.cap,.int .i64 l[k].a,.int .i64 l[k].ac,.int .i64 l[k].b,.int .i64 l[k].bc,.bool l[k].stay,())=if cn l[k]∈(l.map cn).take k then some (.int .i64 6)else some (.int .i64 0):=by
     refine(oY (fun j=>((k:Int),(j:Int),N.stops.map Stop.pv,N.ae.map av.pv,runs.map bA.pv,l.map aH.pv,N.paths.map Path.pv,N.ar.map aR.pv,N.aO,N.within,N.cap,PV.int .i64 l[k].a,PV.int .i64 l[k].ac,PV.int .i64 l[k].b,PV.int .i64 l[k].bc,PV.bool l[k].stay,())) k (fun j=>decide ((l.map cn)[j]?=some (cn l[k]))) (no:=some (.int .i64 6)) (fin:=some (.int .i64 0)) (fun j hj rec=>?_) (fun rec=>?_) (by have:=aS;omega) rfl).trans ?_
     ·have h1:decide ((j:Int)<(k:Int))=true:=by simp;omega
      have FW:j<l.length:=by omega
      have hd:decide ((l.map cn)[j]?=some (cn l[k]))=(decide (l[j].a=l[k].a)&&decide (l[j].ac=l[k].ac)&&decide (l[j].b=l[k].b)&&decide (l[j].bc=l[k].bc)):=by rw[Bool.eq_iff_iff];simp[List.getElem?_eq_getElem FW,cn,and_assoc]
      rw[hd];unfold mz;dsimp only;rw[if_pos h1,az,List.getElem?_map,List.getElem?_eq_getElem FW];simp only[Option.map_some,U,DL,MR,link2,MS,asInt,if_true,an (show j<9223372036854775807 by omega),fa,dy]
     ·unfold mz;dsimp only;rw[if_neg (by simp)]
     ·rw[AE _ _ (by simp;omega)];simp only[decide_eq_true_eq]
    have aex:cd.run (mA cd) ((k:Int),0,N.stops.map Stop.pv,N.ae.map av.pv,runs.map bA.pv,l.map aH.pv,N.paths.map Path.pv,N.ar.map aR.pv,N.aO,N.within,N.cap,.int .i64 l[k].a,.int .i64 l[k].ac,.int .i64 l[k].b,.int .i64 l[k].bc,.bool l[k].stay,())=if(l[k].stay&&((nx (l.take k) l[k].a).isSome||decide (l[k].b∈jH (l.take k))))=true then some (.int .i64 19)else if(l[k].stay&&lu (l.take k) l[k].b l[k].a (k+1))=true then some (.int .i64 19)else if cn l[k]∈(l.map cn).take k then some (.int .i64 6)else some (.int .i64 0):=by
     refine(oY (fun j=>((k:Int),(j:Int),N.stops.map Stop.pv,N.ae.map av.pv,runs.map bA.pv,l.map aH.pv,N.paths.map Path.pv,N.ar.map aR.pv,N.aO,N.within,N.cap,PV.int .i64 l[k].a,PV.int .i64 l[k].ac,PV.int .i64 l[k].b,PV.int .i64 l[k].bc,PV.bool l[k].stay,())) k (fun j=>(l[j]?).elim false fun y=>l[k].stay&&y.stay&&(decide (y.a=l[k].a)||decide (y.b=l[k].b))) (no:=some (.int .i64 19)) (fin:=if(l[k].stay&&lu (l.take k) l[k].b l[k].a (k+1))=true then some (.int .i64 19)else if cn l[k]∈(l.map cn).take k then some (.int .i64 6)else some (.int .i64 0)) (fun j hj rec=>?_) (fun rec=>?_) (by have:=aS;omega) rfl).trans ?_
     ·have h1:decide ((j:Int)<(k:Int))=true:=by simp;omega
      have FW:j<l.length:=by omega
      rw[List.getElem?_eq_getElem FW];unfold mA;dsimp only;rw[if_pos h1,az,List.getElem?_map,List.getElem?_eq_getElem FW];simp only[Option.map_some,U,DL,link2,G3,asInt,asBool,if_true,an (show j<9223372036854775807 by omega),fa,dy,bn,Option.elim];rfl
     ·unfold mA;dsimp only;rw[if_neg (by simp),aaC];have:=yK l[k].b l[k].a (by have:=hb.1.1.1;omega);simp only[asBool,asInt,if_true,U,this,dy]
     ·rw[OW l _ k (by omega)];have Xl:((l.take k).any fun y=>l[k].stay&&y.stay&&(decide (y.a=l[k].a)||decide (y.b=l[k].b)))=(l[k].stay&&((nx (l.take k) l[k].a).isSome||decide (l[k].b∈jH (l.take k)))):=by
       rw[OT,RU];cases l[k].stay with
       |false=>simp
       |true=>
        rw[Bool.eq_iff_iff];simp only[Bool.true_and,Bool.or_eq_true,List.any_eq_true,Bool.and_eq_true,decide_eq_true_eq];constructor
        ·rintro⟨x,h1,h2,h3|h3⟩
         ·exact Or.inl ⟨x,h1,h2,h3⟩
         ·exact Or.inr ⟨x,h1,h2,h3⟩
        ·rintro(⟨x,h1,h2,h3⟩|⟨x,h1,h2,h3⟩)
         ·exact⟨x,h1,h2,Or.inl h3⟩
         ·exact⟨x,h1,h2,Or.inr h3⟩
      rw[Xl]
    rw[aex];have hlen:(l.take k).length=k:=by simp;omega
    have hac:decide (l[k].ac=((aC runs l[k].a).length:Int)-1)=decide (l[k].ac+1=((aC runs l[k].a).length:Int)):=by rw[Bool.eq_iff_iff];simp only[decide_eq_true_eq];omega
    rw[hac];unfold pe;rw[hlen];generalize (!decide (l[k].ac+1=((aC runs l[k].a).length:Int)))=X1;generalize (!decide (l[k].bc=0))=X2;generalize (nx (l.take k) l[k].a).isSome=X3;generalize decide (l[k].b∈jH (l.take k))=X4;generalize lu (l.take k) l[k].b l[k].a (k+1)=X5;by_cases bO:cn l[k]∈(l.map cn).take k
    ·simp only[bO,if_true];cases l[k].stay<;>cases X1<;>cases X2<;>cases X3<;>cases X4<;>cases X5<;>rfl
    ·simp only[bO,if_false];cases l[k].stay<;>cases X1<;>cases X2<;>cases X3<;>cases X4<;>cases X5<;>rfl
   ·simp only[sZ,decide_false,Bool.not_false,if_true,ne_eq,not_false_eq_true,Bool.false_eq_true,if_false]
end Go.Ab.Tt
namespace Go.Ab.Tt
set_option maxRecDepth 100000
set_option linter.unusedVariables false
set_option linter.unusedSimpArgs false
def dD(N:ag):Int×Int×Int:=
 if(gN N.stops).2=0 then
  if(fp N.ae).2=0 then
   if(gb N.runs N.stops.length N.ae.length).2=0 then
    if(gV N.runs N.ah).2=0 then
     if(cW N.paths N.stops.length).2=0 then if(dI N.ar N.aO N.within N.cap).2=0 then(0,0,0)else(5,dI N.ar N.aO N.within N.cap)
     else(4,cW N.paths N.stops.length)
    else(3,gV N.runs N.ah)
   else(2,gb N.runs N.stops.length N.ae.length)
  else(1,fp N.ae)
 else(0,gN N.stops)
def fX(x:Int×Int×Int):PV:=.bl [.int .i64 x.1,.int .i64 x.2.1,.int .i64 x.2.2]
theorem r3E(p i e:Int):PV.agg [cell (r3 p i e) 0,cell (r3 p i e) 1,cell (r3 p i e) 2]=r3 p i e:=rfl
theorem VX(p i e:Int):PV.agg [.int .i64 p,.int .i64 i,.int .i64 e]=r3 p i e:=rfl
theorem ug(p i e q j f:Int):cL [.rs 3 [r3 p i e,r3 q j f]]=some (if e=0 then(if f=0 then r3 0 0 0 else r3 q j f)else r3 p i e):=by
 simp only[cL,qF,ab,if_true,U];have h0:=aX (body:=gn) (fun k=>([r3 p i e,r3 q j f],(2:Int),(k:Int),0,0,0,())) 2 (fun k=>if k=0 then(if e=0 then none else some (some (r3 p i e)))else(if f=0 then none else some (some (r3 q j f)))) (fin:=some (r3 0 0 0)) (fun k hk rec=>?_) (fun rec=>?_) (by decide) (s0:=([r3 p i e,r3 q j f],(2:Int),0,0,0,0,())) rfl
 ·refine h0.trans ?_;have:List.range 2=[0,1]:=rfl;rw[this];by_cases he:e=0
  ·by_cases hf:f=0<;>simp[he,hf,c9]
  ·simp[he,c9]
 ·have h2:k=0∨k=1:=by omega
  rcases h2 with rfl|rfl
  ·unfold gn;dsimp only;rw[if_pos (by simp),az];simp only[List.getElem?_cons_zero,U,Al,asInt,if_true,jC,r3E,an (show 0<9223372036854775807 by omega)];by_cases he:e=0
   ·simp only[he,decide_true,Bool.not_true,Bool.false_eq_true,if_false,if_true];rfl
   ·simp only[he,decide_false,Bool.not_false,if_false,if_true];rfl
  ·unfold gn;dsimp only;rw[if_pos (by simp),az];simp only[List.getElem?_cons_succ,List.getElem?_cons_zero,U,Al,asInt,if_true,jC,r3E,an (show 1<9223372036854775807 by omega)];by_cases he:f=0
   ·simp only[he,decide_true,Bool.not_true,Bool.false_eq_true,if_false,if_true];rfl
   ·simp only[he,decide_false,Bool.not_false,if_false,if_true];rfl
 ·unfold gn;dsimp only;rw[if_neg (by simp)];rfl
theorem KI(p:Int)(x:Int×Int):prt p x=if x.2=0 then r3 0 0 0 else r3 p x.1 x.2:=rfl
theorem yL{l:List Stop}(h:(gN l).2=0):l.length≤64:=by
 unfold gN at h;by_cases s9:l.length>64
 ·rw[if_pos s9]at h;cases h
 ·omega
theorem zL(a b:Int):(a==b)=decide (a=b):=fa a b
theorem Ci(N:ag)(h:N.Ok)(hp:N.paths.length≤4096):dZ [N.pv]=some (fX (dD N)):=by
 have hs:=OI N.stops h.stops;have hr:=Ks N.ae h.ae;have hu:=EX N h.runs;have hl:=CV N h.runs h.ah.1;have hf:=Ku N.ar N.aO N.within N.cap h.ar;unfold va at hf;simp only[dZ,qz,pD,rq,rr,ru,ry,rz,rA,rB,rC,rD,U,yF];simp only[hs,hr,hf,hu,hl,U,res,bU,List.length_cons,List.length_nil,Nat.reduceAdd,if_true,List.getD_cons_zero,List.getD_cons_succ,Ce,MU,VX,ug];unfold dD;by_cases h1:(gN N.stops).2=0
 ·have Y1:=CT N (yL h1) hp;simp only[Y1,U,h1,if_true];by_cases h2:(fp N.ae).2=0
  ·simp only[h2,if_true];rw[KI 2,KI 3,KI 4];by_cases h3:(gb N.runs N.stops.length N.ae.length).2=0
   ·simp only[h3,if_true];by_cases h4:(gV N.runs N.ah).2=0
    ·simp only[h4,if_true];by_cases h5:(cW N.paths N.stops.length).2=0
     ·simp only[h5,if_true];by_cases h6:(dI N.ar N.aO N.within N.cap).2=0
      ·simp only[h6,if_true,MU,VX,xn,wI,Al,asInt,U,ug,zL,decide_true,decide_false,Bool.false_eq_true,fX]
      ·simp only[h6,if_true,if_false,MU,VX,xn,wI,Al,asInt,U,ug,zL,decide_true,decide_false,Bool.false_eq_true,fX]
     ·simp only[h5,if_true,if_false,MU,VX,xn,wI,Al,asInt,U,ug,zL,decide_true,decide_false,Bool.false_eq_true,fX]
    ·simp only[h4,if_true,if_false,MU,VX,xn,wI,Al,asInt,U,ug,zL,decide_true,decide_false,Bool.false_eq_true,fX]
   ·simp only[h3,if_true,if_false,MU,VX,xn,wI,Al,asInt,U,ug,zL,decide_true,decide_false,Bool.false_eq_true,fX]
  ·simp only[h2,if_true,if_false,MU,VX,xn,wI,Al,asInt,U,ug,zL,decide_true,decide_false,Bool.false_eq_true,fX]
 ·simp only[h1,if_true,if_false,MU,VX,xn,wI,Al,asInt,U,ug,zL,decide_true,decide_false,Bool.false_eq_true,fX]
theorem E0(N:ag)(h:N.Ok)(hn:N.stops.length≤64)(hp:N.paths.length≤4096):cd.run lz (0,N.stops.map Stop.pv,N.ae.map av.pv,N.runs.map bA.pv,N.ah.map aH.pv,N.paths.map Path.pv,N.ar.map aR.pv,N.aO,N.within,N.cap,())=some (fX (if(bV (cD N.runs N.ah) N.ah.length).2=0 then
  if(cW N.paths N.stops.length).2=0 then if(dI N.ar N.aO N.within N.cap).2=0 then(0,0,0)else(5,dI N.ar N.aO N.within N.cap)
  else(4,cW N.paths N.stops.length)
 else(3,bV (cD N.runs N.ah) N.ah.length))):=by
 have hm:=aW
 have QJ:=h.ah.1
 have Y1:=OR N hn hp
 have hf:=OK N.ar N.aO N.within N.cap h.ar
 unfold va at hf
 have hg:=hZ (cD N.runs N.ah) N.ah.length (fun i e=>fX (3,i,e)) (some (fX (if(cW N.paths N.stops.length).2=0 then if(dI N.ar N.aO N.within N.cap).2=0 then(0,0,0)else(5,dI N.ar N.aO N.within N.cap)else(4,cW N.paths N.stops.length))))
 have hR:(if(bV (cD N.runs N.ah) N.ah.length).2=0 then(some (fX (if(cW N.paths N.stops.length).2=0 then if(dI N.ar N.aO N.within N.cap).2=0 then(0,0,0)else(5,dI N.ar N.aO N.within N.cap)else(4,cW N.paths N.stops.length))))else some (fX (3,(bV (cD N.runs N.ah) N.ah.length).1,(bV (cD N.runs N.ah) N.ah.length).2)))=some (fX (if(bV (cD N.runs N.ah) N.ah.length).2=0 then
   if(cW N.paths N.stops.length).2=0 then if(dI N.ar N.aO N.within N.cap).2=0 then(0,0,0)else(5,dI N.ar N.aO N.within N.cap)
   else(4,cW N.paths N.stops.length)
  else(3,bV (cD N.runs N.ah) N.ah.length))):=by
  by_cases hz:(bV (cD N.runs N.ah) N.ah.length).2=0
  ·rw[if_pos hz,if_pos hz]
  ·rw[if_neg hz,if_neg hz]
 rw[←hR,←hg]
 refine vK (fun k=>((k:Int),N.stops.map Stop.pv,N.ae.map av.pv,N.runs.map bA.pv,N.ah.map aH.pv,N.paths.map Path.pv,N.ar.map aR.pv,N.aO,N.within,N.cap,())) N.ah.length _ (fun k hk Ai rec=>?_) (fun _ rec=>?_) (by have:=aS;omega) rfl
 ·have aaD:∀j,j<k→cD N.runs N.ah j=0:=fun j hj=>by
   have:=Ai j hj;by_cases h0:cD N.runs N.ah j=0
   ·exact h0
   ·rw[if_neg h0]at this;cases this
  have Uj:=RV N h.runs QJ k hk aaD;have h1:decide ((k:Int)<((N.ah.map aH.pv).length:Int))=true:=by simp;omega
  unfold lz;dsimp only;rw[if_pos h1,yF,Uj];simp only[U,asInt,if_true,jC,an (show k<9223372036854775807 by omega)];by_cases he:cD N.runs N.ah k=0
  ·simp only[he,decide_true,Bool.not_true,Bool.false_eq_true,if_false,if_true];rfl
  ·simp only[he,decide_false,Bool.not_false,if_false,if_true];rfl
 ·unfold lz;dsimp only;rw[if_neg (by simp),yF,Y1];simp only[U,res,bU,List.length_cons,List.length_nil,Nat.reduceAdd,if_true,List.getD_cons_zero,List.getD_cons_succ,asInt,jC,hf];by_cases h5:(cW N.paths N.stops.length).2=0
  ·simp only[h5,decide_true,Bool.not_true,Bool.false_eq_true,if_false,if_true];by_cases h6:(dI N.ar N.aO N.within N.cap).2=0
   ·simp only[h6,decide_true,Bool.not_true,Bool.false_eq_true,if_false,if_true,fX]
   ·simp only[h6,decide_false,Bool.not_false,Bool.false_eq_true,if_false,if_true,fX]
  ·simp only[h5,decide_false,Bool.not_false,Bool.false_eq_true,if_false,if_true,fX]
theorem OX(N:ag)(h:N.Ok)(hp:N.paths.length≤4096):jJ [N.pv]=some (fX (dD N)):=by
 have hm:=aW;have cO:4096≤maxLen:=by decide
 have hs:=OJ N.stops h.stops;have hr:=Kt N.ae h.ae;simp only[jJ,tS,pD,rq,rr,ru,ry,rz,rA,rB,rC,rD,U];simp only[hs,hr,U,res,bU,List.length_cons,List.length_nil,Nat.reduceAdd,if_true,List.getD_cons_zero,List.getD_cons_succ,asInt,jC];unfold dD;by_cases h1:(gN N.stops).2=0
 ·have sd:=E0 N h (yL h1) hp;simp only[h1,decide_true,Bool.not_true,Bool.false_eq_true,if_false,if_true];by_cases h2:(fp N.ae).2=0
  ·simp only[h2,decide_true,Bool.not_true,Bool.false_eq_true,if_false,if_true];unfold gb;by_cases s9:N.runs.length>1024
   ·rw[if_pos (by simp;omega),if_pos s9];rfl
   ·rw[if_neg (by simp;omega),if_neg s9];generalize hE:iW N.runs N.stops.length N.ae.length=E;generalize hF:(if(gV N.runs N.ah).2=0 then
     if(cW N.paths N.stops.length).2=0 then if(dI N.ar N.aO N.within N.cap).2=0 then((0:Int),(0:Int),(0:Int))else(5,dI N.ar N.aO N.within N.cap)
     else(4,cW N.paths N.stops.length)
    else(3,gV N.runs N.ah))=F
    have hg:=hZ E N.runs.length (fun i e=>fX (2,i,e)) (some (fX F));have hR:(if(bV E N.runs.length).2=0 then some (fX F)else some (fX (2,(bV E N.runs.length).1,(bV E N.runs.length).2)))=some (fX (if(bV E N.runs.length).2=0 then F else(2,bV E N.runs.length))):=by
     by_cases hz:(bV E N.runs.length).2=0
     ·rw[if_pos hz,if_pos hz]
     ·rw[if_neg hz,if_neg hz]
    rw[←hR,←hg];refine aX (fun k=>((k:Int),N.stops.map Stop.pv,N.ae.map av.pv,N.runs.map bA.pv,N.ah.map aH.pv,N.paths.map Path.pv,N.ar.map aR.pv,N.aO,N.within,N.cap,())) N.runs.length _ (fun k hk rec=>?_) (fun rec=>?_) (by have:=aS;omega) rfl
    ·have Aa:=UB N h.runs k hk;rw[hE]at Aa;have h1:decide ((k:Int)<((N.runs.map bA.pv).length:Int))=true:=by simp;omega
     unfold pf;dsimp only;rw[if_pos h1,yF,Aa];simp only[U,asInt,if_true,jC,an (show k<9223372036854775807 by omega)];by_cases he:E k=0
     ·simp only[he,decide_true,Bool.not_true,Bool.false_eq_true,if_false,if_true];rfl
     ·simp only[he,decide_false,Bool.not_false,if_false,if_true];rfl
    ·unfold pf;dsimp only;rw[if_neg (by simp),←hF];unfold gV;by_cases FT:N.ah.length>1024
     ·rw[if_pos (by simp;omega),if_pos FT];rfl
     ·rw[if_neg (by simp;omega),if_neg FT,sd]
  ·simp only[h2,decide_false,Bool.not_false,Bool.false_eq_true,if_false,if_true,fX]
 ·simp only[h1,decide_false,Bool.not_false,Bool.false_eq_true,if_false,if_true,fX]
end Go.Ab.Tt
namespace Go.Ab.Tt
set_option maxRecDepth 100000
set_option linter.unusedVariables false
set_option linter.unusedSimpArgs false
theorem KJ{N:ag}(h:(dD N).2.2=0):∀k,k<N.runs.length→iW N.runs N.stops.length N.ae.length k=0:=by
 unfold dD at h;by_cases h1:(gN N.stops).2=0
 ·rw[if_pos h1]at h;by_cases h2:(fp N.ae).2=0
  ·rw[if_pos h2]at h;by_cases h3:(gb N.runs N.stops.length N.ae.length).2=0
   ·unfold gb at h3;by_cases s9:N.runs.length>1024
    ·rw[if_pos s9]at h3;cases h3
    ·rw[if_neg s9]at h3;exact(mb _ _).1 h3
   ·rw[if_neg h3]at h;exact absurd h h3
  ·rw[if_neg h2]at h;exact absurd h h2
 ·rw[if_neg h1]at h;exact absurd h h1
theorem uh{N:ag}(h:(dD N).2.2=0):∀r∈N.runs,(bu r.calls N.stops.length 0 3155932800).2=0:=by
 intro r hr;obtain⟨k,hk,rfl⟩:=List.getElem_of_mem hr;have:=KJ h k hk;unfold iW at this;rw[List.getElem?_eq_getElem hk]at this;simp only at this;by_cases hc:(bu N.runs[k].calls N.stops.length 0 3155932800).2=0
 ·exact hc
 ·rw[if_neg hc]at this;split at this
  ·cases this
  ·split at this
   ·cases this
   ·split at this
    ·cases this
    ·split at this
     ·cases this
     ·exact absurd this hc
theorem ui{l:List aw}{n a b:Int}(h:(bu l n a b).2=0):2≤l.length∧l.length≤32:=by
 unfold bu at h;by_cases hc:(decide ((l.length:Int)<2)||decide ((l.length:Int)>32))=true
 ·rw[if_pos hc]at h;cases h
 ·simp only[Bool.or_eq_true,decide_eq_true_eq,not_or]at hc;omega
theorem zM{l:List aw}{n a b:Int}(h:(bu l n a b).2=0):∀k,k<l.length→mw l n a b k=0:=by
 unfold bu at h;by_cases hc:(decide ((l.length:Int)<2)||decide ((l.length:Int)>32))=true
 ·rw[if_pos hc]at h;cases h
 ·rw[if_neg hc]at h;exact(mb _ _).1 h
theorem pg{c:aw}{p:Option aw}{n a b:Int}(h:lk c p n a b=0):c.arr≤c.dep∧a≤c.arr∧c.dep≤b∧∀q,p=some q→q.dep≤c.arr:=by
 unfold lk at h;cases p with
 |none=>
  dsimp only at h;by_cases hA:(decide (c.stop<0)||decide (c.stop≥n))=true
  ·rw[if_pos hA]at h;cases h
  ·rw[if_neg hA,if_neg (by simp)]at h;by_cases hC:(decide (c.arr<a)||decide (c.arr>c.dep)||decide (c.dep>b)||false)=true
   ·rw[if_pos hC]at h;cases h
   ·simp only[Bool.or_eq_true,decide_eq_true_eq,not_or]at hC;exact⟨by omega,by omega,by omega,fun q hq=>by cases hq⟩
 |some r=>
  dsimp only at h;by_cases hA:(decide (c.stop<0)||decide (c.stop≥n))=true
  ·rw[if_pos hA]at h;cases h
  ·rw[if_neg hA]at h;by_cases hB:decide (r.stop=c.stop)=true
   ·rw[if_pos hB]at h;cases h
   ·rw[if_neg hB]at h;by_cases hC:(decide (c.arr<a)||decide (c.arr>c.dep)||decide (c.dep>b)||decide (c.arr<r.dep))=true
    ·rw[if_pos hC]at h;cases h
    ·simp only[Bool.or_eq_true,decide_eq_true_eq,not_or]at hC;exact⟨by omega,by omega,by omega,fun q hq=>by cases hq;omega⟩
end Go.Ab.Tt
namespace Go.Ab.Tt
set_option maxRecDepth 100000
set_option linter.unusedVariables false
set_option linter.unusedSimpArgs false
theorem Stop.peq(x y:Stop):cB [cell x.pv 0,cell x.pv 1,cell x.pv 2,cell x.pv 3] [cell y.pv 0,cell y.pv 1,cell y.pv 2,cell y.pv 3]=decide (x=y):=by cases x;cases y;rw[Bool.eq_iff_iff];simp[cell,Stop.pv,PV.cells,cB,Ab.peq]
theorem av.peq(x y:av):cB [cell x.pv 0,cell x.pv 1,cell x.pv 2] [cell y.pv 0,cell y.pv 1,cell y.pv 2]=decide (x=y):=by cases x;cases y;rw[Bool.eq_iff_iff];simp[cell,av.pv,PV.cells,cB,Ab.peq]
theorem aw.peq(x y:aw):cB [cell x.pv 0,cell x.pv 1,cell x.pv 2,cell x.pv 3,cell x.pv 4] [cell y.pv 0,cell y.pv 1,cell y.pv 2,cell y.pv 3,cell y.pv 4]=decide (x=y):=by cases x;cases y;rw[Bool.eq_iff_iff];simp[cell,aw.pv,PV.cells,cB,Ab.peq]
theorem aH.peq(x y:aH):cB [cell x.pv 0,cell x.pv 1,cell x.pv 2,cell x.pv 3,cell x.pv 4] [cell y.pv 0,cell y.pv 1,cell y.pv 2,cell y.pv 3,cell y.pv 4]=decide (x=y):=by cases x;cases y;rw[Bool.eq_iff_iff];simp[cell,aH.pv,PV.cells,cB,Ab.peq]
theorem Path.peq(x y:Path):cB [cell x.pv 0,cell x.pv 1,cell x.pv 2,cell x.pv 3] [cell y.pv 0,cell y.pv 1,cell y.pv 2,cell y.pv 3]=decide (x=y):=by cases x;cases y;rw[Bool.eq_iff_iff];simp[cell,Path.pv,PV.cells,cB,Ab.peq]
theorem aR.peq(x y:aR):cB [cell x.pv 0,cell x.pv 1,cell x.pv 2,cell x.pv 3,cell x.pv 4,cell x.pv 5] [cell y.pv 0,cell y.pv 1,cell y.pv 2,cell y.pv 3,cell y.pv 4,cell y.pv 5]=decide (x=y):=by cases x;cases y;rw[Bool.eq_iff_iff];simp[cell,aR.pv,PV.cells,cB,Ab.peq]
theorem pX{a b:Nat}:((a:Int) !=(b:Int))= !decide (a=b):=by rw[Bool.eq_iff_iff];simp;omega
theorem E1{c:Prop}[Decidable c]:(if c then some (PV.bool true)else some (PV.bool false))=some (PV.bool (decide c)):=by by_cases h:c<;>simp[h]
theorem pF(a b:List aw)(ha:a.length≤maxLen):cj [.rs 5 (a.map aw.pv),.rs 5 (b.map aw.pv)]=some (.bool (decide (a=b))):=by
 have hm:=aW;simp only[cj,gL,ab,if_true,U,List.length_map];by_cases h:a.length=b.length
 ·rw[if_neg (by rw[pX];simp[h])];refine(aX (fun k=>(a.map aw.pv,b.map aw.pv,(a.length:Int),(k:Int),())) a.length (fun k=>if a[k]?=b[k]? then none else some (some (PV.bool false))) (fun k hk rec=>?_) (fin:=some (PV.bool true)) (fun rec=>?_) (by have:=aS;omega) rfl).trans ?_
  ·have h1:decide ((k:Int)<(a.length:Int))=true:=by simp;omega
   have jA:k<b.length:=by omega
   unfold fC;dsimp only;try rw[List.length_map]
   rw[if_pos h1,az,az,List.getElem?_map,List.getElem?_map,List.getElem?_eq_getElem hk,List.getElem?_eq_getElem jA];simp only[Option.map_some,U];rw[if_pos ⟨rfl,rfl⟩,aw.peq,an (by omega)];by_cases he:a[k]=b[k]
   ·simp[he,c9]
   ·simp[he,c9]
  ·unfold fC;dsimp only;rw[if_neg (by simp)]
  ·exact(my a b h (some (PV.bool false)) (some (PV.bool true))).trans E1
 ·rw[if_pos (by rw[pX];simp[h])];have:a≠b:=fun e=>h (by rw[e]);simp[this]
theorem E2(a b:List aw)(ha:a.length≤maxLen):fM [.rs 5 (a.map aw.pv),.rs 5 (b.map aw.pv)]=some (.bool (decide (a=b))):=by
 have hm:=aW;simp only[fM,nh,ab,if_true,U,List.length_map];by_cases h:a.length=b.length
 ·rw[if_neg (by rw[pX];simp[h])];refine(aX (fun k=>(a.map aw.pv,b.map aw.pv,(k:Int),())) a.length (fun k=>if a[k]?=b[k]? then none else some (some (PV.bool false))) (fun k hk rec=>?_) (fin:=some (PV.bool true)) (fun rec=>?_) (by have:=aS;omega) rfl).trans ?_
  ·have h1:decide ((k:Int)<(a.length:Int))=true:=by simp;omega
   have jA:k<b.length:=by omega
   unfold kj;dsimp only;try rw[List.length_map]
   rw[if_pos h1,az,az,List.getElem?_map,List.getElem?_map,List.getElem?_eq_getElem hk,List.getElem?_eq_getElem jA];simp only[Option.map_some,U];rw[if_pos ⟨rfl,rfl⟩,aw.peq,an (by omega)];by_cases he:a[k]=b[k]
   ·simp[he,c9]
   ·simp[he,c9]
  ·unfold kj;dsimp only;rw[if_neg (by simp)]
  ·exact(my a b h (some (PV.bool false)) (some (PV.bool true))).trans E1
 ·rw[if_pos (by rw[pX];simp[h])];have:a≠b:=fun e=>h (by rw[e]);simp[this]
def uj(l:List aR)(d w c:Int):PV:=.agg [.rs 6 (l.map aR.pv),.int .i64 d,.int .i64 w,.int .i64 c]
theorem nH(a b:List aR)(d1 w1 c1 d2 w2 c2:Int)(ha:a.length≤maxLen):fN [uj a d1 w1 c1,uj b d2 w2 c2]=some (.bool (decide (d1=d2)&&decide (w1=w2)&&decide (c1=c2)&&decide (a=b))):=by
 have hm:=aW;have f0:∀l d w c,asAgg 4 (uj l d w c)=some ():=fun _ _ _ _=>rfl;have f1:∀l d w c,cell (uj l d w c) 0=.rs 6 (l.map aR.pv):=fun _ _ _ _=>rfl;have f2:∀l d w c,cell (uj l d w c) 1=.int .i64 d:=fun _ _ _ _=>rfl;have f3:∀l d w c,cell (uj l d w c) 2=.int .i64 w:=fun _ _ _ _=>rfl;have f4:∀l d w c,cell (uj l d w c) 3=.int .i64 c:=fun _ _ _ _=>rfl;simp only[fN,ni,f0,f1,f2,f3,f4,ab,asInt,if_true,U,List.length_map,pX,jC,bn];by_cases h:a.length=b.length
 ·by_cases e1:d1=d2
  ·by_cases e2:w1=w2
   ·by_cases e3:c1=c2
    ·rw[if_neg (by simp[h,e1,e2,e3])];simp only[e1,e2,e3,decide_true,Bool.true_and];refine(aX (fun k=>((k:Int),a.map aR.pv,d2,w2,c2,b.map aR.pv,d2,w2,c2,())) a.length (fun k=>if a[k]?=b[k]? then none else some (some (PV.bool false))) (fun k hk rec=>?_) (fin:=some (PV.bool true)) (fun rec=>?_) (by have:=aS;omega) rfl).trans ?_
     ·have h1:decide ((k:Int)<(a.length:Int))=true:=by simp;omega
      have jA:k<b.length:=by omega
      unfold kn;dsimp only;try rw[List.length_map]
      rw[if_pos h1,az,az,List.getElem?_map,List.getElem?_map,List.getElem?_eq_getElem hk,List.getElem?_eq_getElem jA];simp only[Option.map_some,U];rw[if_pos ⟨rfl,rfl⟩,aR.peq,an (by omega)];by_cases he:a[k]=b[k]
      ·simp[he,c9]
      ·simp[he,c9]
     ·unfold kn;dsimp only;rw[if_neg (by simp)]
     ·exact(my a b h (some (PV.bool false)) (some (PV.bool true))).trans E1
    ·rw[if_pos (by simp[e3])];simp[e3]
   ·rw[if_pos (by simp[e2])];simp[e2]
  ·rw[if_pos (by simp[e1])];simp[e1]
 ·rw[if_pos (by
   have h':¬((a.length:Int)=(b.length:Int)):=by omega
   simp[h'])]
  have:a≠b:=fun e=>h (by rw[e]);simp[this]
theorem MZ(x y:bA):decide (x=y)=(decide (x.dw=y.dw)&&decide (x.day=y.day)&&decide (x.inst=y.inst)&&decide (x.id=y.id)&&decide (x.bk=y.bk)&&decide (x.free=y.free)&&decide (x.nF=y.nF)&&decide (x.calls=y.calls)):=by cases x;cases y;rw[Bool.eq_iff_iff];simp[and_assoc]
theorem pY(a b:List bA)(ha:a.length≤maxLen)(hc:∀x∈a,x.calls.length≤maxLen):gp [.rs 8 (a.map bA.pv),.rs 8 (b.map bA.pv)]=some (.bool (decide (a=b))):=by
 have hm:=aW;simp only[gp,oP,ab,if_true,U,List.length_map];by_cases h:a.length=b.length
 ·rw[if_neg (by rw[pX];simp[h])];refine(aX (fun k=>(a.map bA.pv,b.map bA.pv,(k:Int),())) a.length (fun k=>if a[k]?=b[k]? then none else some (some (PV.bool false))) (fun k hk rec=>?_) (fin:=some (PV.bool true)) (fun rec=>?_) (by have:=aS;omega) rfl).trans ?_
  ·have h1:decide ((k:Int)<(a.length:Int))=true:=by simp;omega
   have jA:k<b.length:=by omega
   have gz:=E2 a[k].calls b[k].calls (hc _ (List.getElem_mem hk));unfold lA;dsimp only;rw[List.length_map,if_pos h1,az,az,List.getElem?_map,List.getElem?_map,List.getElem?_eq_getElem hk,List.getElem?_eq_getElem jA];simp only[Option.map_some,U,Uz,OM,ON,OO,UA,XH,XI,EU,asInt,bx,asBool,ab,if_true,gz,bn,jC,fa,an (show k<9223372036854775807 by omega)];have hd:=MZ a[k] b[k];by_cases he:a[k]=b[k]
   ·simp[he,c9]
   ·rw[if_pos,if_neg (by simpa using he)]
    ·rfl
    ·rw[decide_eq_false he]at hd;revert hd;generalize decide (a[k].dw=b[k].dw)=x1;generalize decide (a[k].day=b[k].day)=x2;generalize decide (a[k].inst=b[k].inst)=x3;generalize decide (a[k].id=b[k].id)=x4;generalize decide (a[k].bk=b[k].bk)=x5;generalize decide (a[k].free=b[k].free)=x6;generalize decide (a[k].nF=b[k].nF)=x7;generalize decide (a[k].calls=b[k].calls)=x8;revert x1 x2 x3 x4 x5 x6 x7 x8;decide
  ·unfold lA;dsimp only;rw[if_neg (by simp)]
  ·exact(my a b h (some (PV.bool false)) (some (PV.bool true))).trans E1
 ·rw[if_pos (by rw[pX];simp[h])];have:a≠b:=fun e=>h (by rw[e]);simp[this]
def eqN(A B:ag):Bool:=decide (A.stops=B.stops)&&decide (A.ae=B.ae)&&decide (A.ah=B.ah)&&decide (A.paths=B.paths)&&decide (A.runs=B.runs)&&(decide (A.aO=B.aO)&&decide (A.within=B.within)&&decide (A.cap=B.cap)&&decide (A.ar=B.ar))
theorem RW(A:ag):eqN A A=true:=by simp[eqN]
def KK(A B:ag):Bool:=decide (A.runs=B.runs)&&(decide (A.aO=B.aO)&&decide (A.within=B.within)&&decide (A.cap=B.cap)&&decide (A.ar=B.ar))
theorem OY(A B:ag)(hA:A.Ok)(h:A.paths.length=B.paths.length):cd.run (gq) (0,A.stops.map Stop.pv,A.ae.map av.pv,A.runs.map bA.pv,A.ah.map aH.pv,A.paths.map Path.pv,A.ar.map aR.pv,A.aO,A.within,A.cap,B.stops.map Stop.pv,B.ae.map av.pv,B.runs.map bA.pv,B.ah.map aH.pv,B.paths.map Path.pv,B.ar.map aR.pv,B.aO,B.within,B.cap,())=if A.paths=B.paths then some (.bool (KK A B))else some (.bool false):=by
 have hm:=aW;have hl:=hA.paths.1;have e1:=pY A.runs B.runs hA.runs.1 (fun x hx=>(hA.runs.2 x hx).calls.1);have e2:=nH A.ar B.ar A.aO A.within A.cap B.aO B.within B.cap hA.ar.1;unfold uj at e2;generalize tJ:(some (.bool (KK A B)):Option PV)=fin;generalize ha:A.paths=a at h hl⊢;generalize hb:B.paths=b at h⊢;refine(aX (fun k=>((k:Int),A.stops.map Stop.pv,A.ae.map av.pv,A.runs.map bA.pv,A.ah.map aH.pv,a.map Path.pv,A.ar.map aR.pv,A.aO,A.within,A.cap,B.stops.map Stop.pv,B.ae.map av.pv,B.runs.map bA.pv,B.ah.map aH.pv,b.map Path.pv,B.ar.map aR.pv,B.aO,B.within,B.cap,())) a.length (fun k=>if a[k]?=b[k]? then none else some (some (PV.bool false))) (fun k hk rec=>?_) (fin:=fin) (fun rec=>?_) (by have:=aS;omega) rfl).trans ?_
 ·have h1:decide ((k:Int)<(a.length:Int))=true:=by simp;omega
  have jA:k<b.length:=by omega
  unfold gq;dsimp only;try rw[List.length_map]
  rw[if_pos h1,az,az,List.getElem?_map,List.getElem?_map,List.getElem?_eq_getElem hk,List.getElem?_eq_getElem jA];simp only[Option.map_some,U];rw[if_pos ⟨rfl,rfl⟩,Path.peq,an (by omega)];by_cases he:a[k]=b[k]
  ·simp[he,c9]
  ·simp[he,c9]
 ·subst ha;subst hb;rw[←tJ];unfold gq;dsimp only;rw[if_neg (by simp)];simp only[e1,e2,U,asBool,dy];rfl
 ·exact my a b h _ _
theorem OZ(A B:ag)(hA:A.Ok)(h:A.ah.length=B.ah.length):cd.run (gr cd) (0,A.stops.map Stop.pv,A.ae.map av.pv,A.runs.map bA.pv,A.ah.map aH.pv,A.paths.map Path.pv,A.ar.map aR.pv,A.aO,A.within,A.cap,B.stops.map Stop.pv,B.ae.map av.pv,B.runs.map bA.pv,B.ah.map aH.pv,B.paths.map Path.pv,B.ar.map aR.pv,B.aO,B.within,B.cap,())=if A.ah=B.ah then cd.run (gq) (0,A.stops.map Stop.pv,A.ae.map av.pv,A.runs.map bA.pv,A.ah.map aH.pv,A.paths.map Path.pv,A.ar.map aR.pv,A.aO,A.within,A.cap,B.stops.map Stop.pv,B.ae.map av.pv,B.runs.map bA.pv,B.ah.map aH.pv,B.paths.map Path.pv,B.ar.map aR.pv,B.aO,B.within,B.cap,())else some (.bool false):=by
 have hm:=aW;have hl:=hA.ah.1;have e1:=pY A.runs B.runs hA.runs.1 (fun x hx=>(hA.runs.2 x hx).calls.1);have e2:=nH A.ar B.ar A.aO A.within A.cap B.aO B.within B.cap hA.ar.1;unfold uj at e2;generalize tJ:(cd.run (gq) (0,A.stops.map Stop.pv,A.ae.map av.pv,A.runs.map bA.pv,A.ah.map aH.pv,A.paths.map Path.pv,A.ar.map aR.pv,A.aO,A.within,A.cap,B.stops.map Stop.pv,B.ae.map av.pv,B.runs.map bA.pv,B.ah.map aH.pv,B.paths.map Path.pv,B.ar.map aR.pv,B.aO,B.within,B.cap,()):Option PV)=fin;generalize ha:A.ah=a at h hl⊢;generalize hb:B.ah=b at h⊢;refine(aX (fun k=>((k:Int),A.stops.map Stop.pv,A.ae.map av.pv,A.runs.map bA.pv,a.map aH.pv,A.paths.map Path.pv,A.ar.map aR.pv,A.aO,A.within,A.cap,B.stops.map Stop.pv,B.ae.map av.pv,B.runs.map bA.pv,b.map aH.pv,B.paths.map Path.pv,B.ar.map aR.pv,B.aO,B.within,B.cap,())) a.length (fun k=>if a[k]?=b[k]? then none else some (some (PV.bool false))) (fun k hk rec=>?_) (fin:=fin) (fun rec=>?_) (by have:=aS;omega) rfl).trans ?_
 ·have h1:decide ((k:Int)<(a.length:Int))=true:=by simp;omega
  have jA:k<b.length:=by omega
  unfold gr;dsimp only;try rw[List.length_map]
  rw[if_pos h1,az,az,List.getElem?_map,List.getElem?_map,List.getElem?_eq_getElem hk,List.getElem?_eq_getElem jA];simp only[Option.map_some,U];rw[if_pos ⟨rfl,rfl⟩,aH.peq,an (by omega)];by_cases he:a[k]=b[k]
  ·simp[he,c9]
  ·simp[he,c9]
 ·subst ha;subst hb;rw[←tJ];unfold gr;dsimp only;rw[if_neg (by simp)]
 ·exact my a b h _ _
theorem O0(A B:ag)(hA:A.Ok)(h:A.ae.length=B.ae.length):cd.run (gu cd) (0,A.stops.map Stop.pv,A.ae.map av.pv,A.runs.map bA.pv,A.ah.map aH.pv,A.paths.map Path.pv,A.ar.map aR.pv,A.aO,A.within,A.cap,B.stops.map Stop.pv,B.ae.map av.pv,B.runs.map bA.pv,B.ah.map aH.pv,B.paths.map Path.pv,B.ar.map aR.pv,B.aO,B.within,B.cap,())=if A.ae=B.ae then cd.run (gr cd) (0,A.stops.map Stop.pv,A.ae.map av.pv,A.runs.map bA.pv,A.ah.map aH.pv,A.paths.map Path.pv,A.ar.map aR.pv,A.aO,A.within,A.cap,B.stops.map Stop.pv,B.ae.map av.pv,B.runs.map bA.pv,B.ah.map aH.pv,B.paths.map Path.pv,B.ar.map aR.pv,B.aO,B.within,B.cap,())else some (.bool false):=by
 have hm:=aW;have hl:=hA.ae.1;have e1:=pY A.runs B.runs hA.runs.1 (fun x hx=>(hA.runs.2 x hx).calls.1);have e2:=nH A.ar B.ar A.aO A.within A.cap B.aO B.within B.cap hA.ar.1;unfold uj at e2;generalize tJ:(cd.run (gr cd) (0,A.stops.map Stop.pv,A.ae.map av.pv,A.runs.map bA.pv,A.ah.map aH.pv,A.paths.map Path.pv,A.ar.map aR.pv,A.aO,A.within,A.cap,B.stops.map Stop.pv,B.ae.map av.pv,B.runs.map bA.pv,B.ah.map aH.pv,B.paths.map Path.pv,B.ar.map aR.pv,B.aO,B.within,B.cap,()):Option PV)=fin;generalize ha:A.ae=a at h hl⊢;generalize hb:B.ae=b at h⊢;refine(aX (fun k=>((k:Int),A.stops.map Stop.pv,a.map av.pv,A.runs.map bA.pv,A.ah.map aH.pv,A.paths.map Path.pv,A.ar.map aR.pv,A.aO,A.within,A.cap,B.stops.map Stop.pv,b.map av.pv,B.runs.map bA.pv,B.ah.map aH.pv,B.paths.map Path.pv,B.ar.map aR.pv,B.aO,B.within,B.cap,())) a.length (fun k=>if a[k]?=b[k]? then none else some (some (PV.bool false))) (fun k hk rec=>?_) (fin:=fin) (fun rec=>?_) (by have:=aS;omega) rfl).trans ?_
 ·have h1:decide ((k:Int)<(a.length:Int))=true:=by simp;omega
  have jA:k<b.length:=by omega
  unfold gu;dsimp only;try rw[List.length_map]
  rw[if_pos h1,az,az,List.getElem?_map,List.getElem?_map,List.getElem?_eq_getElem hk,List.getElem?_eq_getElem jA];simp only[Option.map_some,U];rw[if_pos ⟨rfl,rfl⟩,av.peq,an (by omega)];by_cases he:a[k]=b[k]
  ·simp[he,c9]
  ·simp[he,c9]
 ·subst ha;subst hb;rw[←tJ];unfold gu;dsimp only;rw[if_neg (by simp)]
 ·exact my a b h _ _
theorem O1(A B:ag)(hA:A.Ok)(h:A.stops.length=B.stops.length):cd.run (lB cd) (0,A.stops.map Stop.pv,A.ae.map av.pv,A.runs.map bA.pv,A.ah.map aH.pv,A.paths.map Path.pv,A.ar.map aR.pv,A.aO,A.within,A.cap,B.stops.map Stop.pv,B.ae.map av.pv,B.runs.map bA.pv,B.ah.map aH.pv,B.paths.map Path.pv,B.ar.map aR.pv,B.aO,B.within,B.cap,())=if A.stops=B.stops then cd.run (gu cd) (0,A.stops.map Stop.pv,A.ae.map av.pv,A.runs.map bA.pv,A.ah.map aH.pv,A.paths.map Path.pv,A.ar.map aR.pv,A.aO,A.within,A.cap,B.stops.map Stop.pv,B.ae.map av.pv,B.runs.map bA.pv,B.ah.map aH.pv,B.paths.map Path.pv,B.ar.map aR.pv,B.aO,B.within,B.cap,())else some (.bool false):=by
 have hm:=aW;have hl:=hA.stops.1;have e1:=pY A.runs B.runs hA.runs.1 (fun x hx=>(hA.runs.2 x hx).calls.1);have e2:=nH A.ar B.ar A.aO A.within A.cap B.aO B.within B.cap hA.ar.1;unfold uj at e2;generalize tJ:(cd.run (gu cd) (0,A.stops.map Stop.pv,A.ae.map av.pv,A.runs.map bA.pv,A.ah.map aH.pv,A.paths.map Path.pv,A.ar.map aR.pv,A.aO,A.within,A.cap,B.stops.map Stop.pv,B.ae.map av.pv,B.runs.map bA.pv,B.ah.map aH.pv,B.paths.map Path.pv,B.ar.map aR.pv,B.aO,B.within,B.cap,()):Option PV)=fin;generalize ha:A.stops=a at h hl⊢;generalize hb:B.stops=b at h⊢;refine(aX (fun k=>((k:Int),a.map Stop.pv,A.ae.map av.pv,A.runs.map bA.pv,A.ah.map aH.pv,A.paths.map Path.pv,A.ar.map aR.pv,A.aO,A.within,A.cap,b.map Stop.pv,B.ae.map av.pv,B.runs.map bA.pv,B.ah.map aH.pv,B.paths.map Path.pv,B.ar.map aR.pv,B.aO,B.within,B.cap,())) a.length (fun k=>if a[k]?=b[k]? then none else some (some (PV.bool false))) (fun k hk rec=>?_) (fin:=fin) (fun rec=>?_) (by have:=aS;omega) rfl).trans ?_
 ·have h1:decide ((k:Int)<(a.length:Int))=true:=by simp;omega
  have jA:k<b.length:=by omega
  unfold lB;dsimp only;try rw[List.length_map]
  rw[if_pos h1,az,az,List.getElem?_map,List.getElem?_map,List.getElem?_eq_getElem hk,List.getElem?_eq_getElem jA];simp only[Option.map_some,U];rw[if_pos ⟨rfl,rfl⟩,Stop.peq,an (by omega)];by_cases he:a[k]=b[k]
  ·simp[he,c9]
  ·simp[he,c9]
 ·subst ha;subst hb;rw[←tJ];unfold lB;dsimp only;rw[if_neg (by simp)]
 ·exact my a b h _ _
theorem O2(A B:ag)(hA:A.Ok):fb [A.pv,B.pv]=some (.bool (eqN A B)):=by
 simp only[fb,mK,pD,rq,rr,ru,ry,rz,rA,rB,rC,rD,U,bn,List.length_map,pX];unfold eqN;by_cases h1:A.stops.length=B.stops.length
 ·by_cases h2:A.ae.length=B.ae.length
  ·by_cases h3:A.ah.length=B.ah.length
   ·by_cases h4:A.paths.length=B.paths.length
    ·rw[if_neg (by simp[h1,h2,h3,h4]),O1 A B hA h1,O0 A B hA h2,OZ A B hA h3,OY A B hA h4];unfold KK;by_cases g1:A.stops=B.stops
     ·by_cases g2:A.ae=B.ae
      ·by_cases g3:A.ah=B.ah
       ·by_cases g4:A.paths=B.paths
        ·rw[if_pos g1,if_pos g2,if_pos g3,if_pos g4];simp[g1,g2,g3,g4]
        ·rw[if_pos g1,if_pos g2,if_pos g3,if_neg g4];simp[g4]
       ·rw[if_pos g1,if_pos g2,if_neg g3];simp[g3]
      ·rw[if_pos g1,if_neg g2];simp[g2]
     ·rw[if_neg g1];simp[g1]
    ·rw[if_pos (by simp[h4])];have:A.paths≠B.paths:=fun e=>h4 (by rw[e]);simp[this]
   ·rw[if_pos (by simp[h3])];have:A.ah≠B.ah:=fun e=>h3 (by rw[e]);simp[this]
  ·rw[if_pos (by simp[h2])];have:A.ae≠B.ae:=fun e=>h2 (by rw[e]);simp[this]
 ·rw[if_pos (by simp[h1])];have:A.stops≠B.stops:=fun e=>h1 (by rw[e]);simp[this]
end Go.Ab.Tt
namespace Go.Ab.Tt
set_option maxRecDepth 100000
set_option linter.unusedVariables false
set_option linter.unusedSimpArgs false
theorem cJ(es:List PV)(n:Nat)(h:es.length≤1000)(hn:0<n)(hn2:n≤1000):(([]:List PV)++es).length*n≤aa∧0<n:=by refine⟨?_,hn⟩;rw[List.nil_append];have:es.length*n≤1000*1000:=Nat.mul_le_mul h hn2;unfold aa;omega
theorem ko(es:List PV):List.take (((([]:List PV)++es).length:Int).toNat) (([]:List PV)++es)=es:=by simp
theorem Cj(es:List PV)(h:es.length≤1000):cy [.rs 4 es]=some (.rs 4 es):=by simp only[cy,kh,ab,if_true,U];rw[if_pos (cJ es 40 h (by decide) (by decide)),if_pos ⟨by omega,by omega,by omega,trivial⟩,ko]
theorem zN(es:List PV)(h:es.length≤1000):ck [.rs 3 es]=some (.rs 3 es):=by simp only[ck,js,ab,if_true,U];rw[if_pos (cJ es 32 h (by decide) (by decide)),if_pos ⟨by omega,by omega,by omega,trivial⟩,ko]
theorem DN(es:List PV)(h:es.length≤1000):cR [.rs 8 es]=some (.rs 8 es):=by simp only[cR,la,ab,if_true,U];rw[if_pos (cJ es 80 h (by decide) (by decide)),if_pos ⟨by omega,by omega,by omega,trivial⟩,ko]
theorem Ck(es:List PV)(h:es.length≤1000):cz [.rs 5 es]=some (.rs 5 es):=by simp only[cz,kg,ab,if_true,U];rw[if_pos (cJ es 40 h (by decide) (by decide)),if_pos ⟨by omega,by omega,by omega,trivial⟩,ko]
theorem uk(es:List PV)(h:es.length≤1000):bG [.rs 4 es]=some (.rs 4 es):=by simp only[bG,gM,ab,if_true,U];rw[if_pos (cJ es 32 h (by decide) (by decide)),if_pos ⟨by omega,by omega,by omega,trivial⟩,ko]
theorem Cl(es:List PV)(h:es.length≤1000):cA [.rs 5 es]=some (.rs 5 es):=by simp only[cA,j8,ab,if_true,U];rw[if_pos (cJ es 32 h (by decide) (by decide)),if_pos ⟨by omega,by omega,by omega,trivial⟩,ko]
theorem vM(es:List PV)(h:es.length≤1000):bN [.rs 6 es]=some (.rs 6 es):=by simp only[bN,ig,ab,if_true,U];rw[if_pos (cJ es 56 h (by decide) (by decide)),if_pos ⟨by omega,by omega,by omega,trivial⟩,ko]
variable{A:Type}
def mix(f g:A→PV)(l:List A)(k:Nat):List PV:=(l.take k).map f++(l.drop k).map g
theorem Hi(f g:A→PV)(l:List A):mix f g l 0=l.map g:=by simp[mix]
theorem E3(f g:A→PV)(l:List A):mix f g l l.length=l.map f:=by simp[mix]
theorem M0(f g:A→PV)(l:List A)(k:Nat):(mix f g l k).length=l.length:=by simp[mix];omega
theorem M1(f g:A→PV)(l:List A)(k:Nat)(h:k<l.length):(mix f g l k)[k]?=some (g l[k]):=by unfold mix;rw[List.getElem?_append_right (by simp;omega)];simp only[List.length_map,List.length_take,Nat.min_eq_left (Nat.le_of_lt h),Nat.sub_self,List.getElem?_map,List.getElem?_drop,Nat.add_zero,List.getElem?_eq_getElem h,Option.map_some]
theorem M3(f g:A→PV)(l:List A)(k:Nat)(h:k<l.length):(mix f g l k).set k (f l[k])=mix f g l (k+1):=by
 apply List.ext_getElem?;intro j;rw[List.getElem?_set];unfold mix;by_cases hj:k=j
 ·subst hj;rw[if_pos rfl,if_pos (by simp;omega),List.getElem?_append_left (by simp;omega)];simp[h]
 ·rw[if_neg hj];by_cases br:j<k
  ·rw[List.getElem?_append_left (by simp;omega),List.getElem?_append_left (by simp;omega)];simp[br,Nat.lt_succ_of_lt br]
  ·rw[List.getElem?_append_right (by simp;omega),List.getElem?_append_right (by simp;omega)];simp only[List.length_map,List.length_take,List.getElem?_map,List.getElem?_drop];congr 2;omega
theorem ek(f g:A→PV)(l:List A)(k:Nat)(h:k<l.length)(p:PV):((mix f g l k).set k p)[k]?=some p:=by rw[List.getElem?_set,if_pos rfl,if_pos (by rw[M0];exact h)]
theorem E4(f g:A→PV)(l:List A)(k:Nat)(h:k<l.length):af (k:Int) (mix f g l k).length:=by rw[M0];exact⟨by omega,by omega⟩
def bA.pN(x:bA):PV:=.agg [.int .i64 x.dw,.int .i64 x.day,.int .i64 x.inst,.str x.id,.int .i64 x.bk,.bool x.free,.bool x.nF,.fO 5 (x.calls.map aw.pv)]
theorem kq(l:List bA):(l.map bA.pN).map PV.strip=l.map bA.pv:=by rw[List.map_map];rfl
end Go.Ab.Tt
