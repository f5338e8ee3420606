import Derived.Test.YtcmhmlnkhmefbaaGreatNkP1
import Derived.Test.YtcmhmlnkhmefbaaGreatNwP2
namespace Go.Ab.Tt
set_option maxRecDepth 100000
set_option linter.unusedVariables false
set_option linter.unusedSimpArgs false
def bY(x:Path):Int×Int×Bool:=(x.a,x.b,x.free)
def yB(x:Int×Int×Bool):PV:=.agg [.int .i64 x.1,.int .i64 x.2.1,.bool x.2.2]
theorem G0(a b:Int×Int×Bool):cB (yB a).cells (yB b).cells=decide (a=b):=by obtain⟨a1,a2,a3⟩:=a;obtain⟨b1,b2,b3⟩:=b;rw[Bool.eq_iff_iff];simp[yB,PV.cells,cB,peq]
def dt(l:List Path)(n:Int)(k:Nat):Int:=match l[k]? with
 |none=>0
 |some x=>if(decide (x.a<0)||decide (x.a≥n)||decide (x.b<0)||decide (x.b≥n)||decide (x.a=x.b))=true then 9 else if(decide (x.bT<1)||decide (x.bT>14400))=true then 2 else if bY x∈(l.map bY).take k then 6 else 0
theorem Ko(l:List Path)(n:Int)(hl:l.length≤maxLen):eA [.rs 4 (l.map Path.pv),.int .i64 n]=some (res (bU (dt l n) l.length).1 (bU (dt l n) l.length).2):=by
 have hm:=aW;simp only[eA,oP,ae,asInt,if_true,U,List.length_map];rw[←mM];refine aX (fun k=>(n,l.map Path.pv,(l.length:Int),(k:Int),seen yB ((l.map bY).take k),())) l.length _ (fun k hk rec=>?_) (fun rec=>?_) ?_ rfl
 ·have h1:(k:Int)<(l.length:Int):=by omega
  have qq:eO (.agg [.int .i64 l[k].a,.int .i64 l[k].b,.bool l[k].free]) (.bool true) (seen yB ((l.map bY).take k))=_:=mN G0 (bY l[k]) ((l.map bY).take k);have rn:dJ (.agg [.int .i64 l[k].a,.int .i64 l[k].b,.bool l[k].free]) (.bool false) (seen yB ((l.map bY).take k))=_:=kG G0 (bY l[k]) ((l.map bY).take k);simp only[lq,decide_eq_true_eq,h1,if_true,az,List.getElem?_map,List.getElem?_eq_getElem hk,Option.map_some,U,GX,GY,MJ,GZ,asInt,asBool,qq,rn,fb,an (show k<9223372036854775807 by omega),oT bY l k hk];unfold dt;rw[List.getElem?_eq_getElem hk];simp only;by_cases bO:bY l[k]∈(l.map bY).take k
  ·simp only[bO,if_true];by_cases e1:l[k].a<0<;>by_cases e2:l[k].a≥n<;>by_cases e3:l[k].b<0<;>by_cases e4:l[k].b≥n<;>by_cases e5:l[k].a=l[k].b<;>by_cases e6:l[k].bT<1<;>by_cases e7:l[k].bT>14400<;>simp only[e1,e2,e3,e4,e5,e6,e7,decide_true,decide_false,Bool.or_true,Bool.true_or,Bool.or_false,if_true,if_false,Bool.false_eq_true]<;>rfl
  ·simp only[bO,if_false,Bool.false_eq_true];by_cases e1:l[k].a<0<;>by_cases e2:l[k].a≥n<;>by_cases e3:l[k].b<0<;>by_cases e4:l[k].b≥n<;>by_cases e5:l[k].a=l[k].b<;>by_cases e6:l[k].bT<1<;>by_cases e7:l[k].bT>14400<;>simp only[e1,e2,e3,e4,e5,e6,e7,decide_true,decide_false,Bool.or_true,Bool.true_or,Bool.or_false,if_true,if_false,Bool.false_eq_true]<;>rfl
 ·simp only[lq,decide_eq_true_eq,Int.lt_irrefl,if_false];rfl
 ·have:=aS;omega
def toFp(p:Path):Nw.Fp:=⟨p.a.toNat,p.b.toNat,p.bT.toNat,p.free⟩
def Sound(l:List Path)(n:Nat):Prop:=∀p∈l,0≤p.a∧p.a<n∧0≤p.b∧p.b<n∧1≤p.bT∧p.bT≤14400
variable{l:List Path}{n:Nat}
theorem G1(h:(bU (dt l n) l.length).2=0):Sound l n:=by
 intro p hp;obtain⟨k,hk,rfl⟩:=List.getElem_of_mem hp;have h0:=(mc _ _).1 h k hk;unfold dt at h0;rw[List.getElem?_eq_getElem hk]at h0;simp only at h0;by_cases c1:(decide (l[k].a<0)||decide (l[k].a≥n)||decide (l[k].b<0)||decide (l[k].b≥n)||decide (l[k].a=l[k].b))=true
 ·rw[if_pos c1]at h0;omega
 ·rw[if_neg c1]at h0;by_cases c2:(decide (l[k].bT<1)||decide (l[k].bT>14400))=true
  ·rw[if_pos c2]at h0;omega
  ·simp only[Bool.or_eq_true,decide_eq_true_eq]at c1 c2;omega
theorem toFp_pv{p:Path}(h1:0≤p.a)(h2:0≤p.b)(h3:1≤p.bT):(toFp p).pv=p.pv:=by simp only[toFp,Nw.Fp.pv,Path.pv];rw[Int.toNat_of_nonneg h1,Int.toNat_of_nonneg h2,Int.toNat_of_nonneg (by omega)]
theorem RB(h:Sound l n):(l.map toFp).map Nw.Fp.pv=l.map Path.pv:=by rw[List.map_map];apply List.map_congr_left;intro p hp;exact toFp_pv (h p hp).1 (h p hp).2.2.1 (h p hp).2.2.2.2.1
def ML(e:List PV):Path:=match e with|[.int .i64 a,.int .i64 b,.int .i64 s,.bool f]=>⟨a,b,s,f⟩|_=>⟨0,0,0,false⟩
theorem B7:∀(L:List (List PV)),(∀e∈L,Nw.IsF e)→eC L=(L.map ML).map Path.pv
 |[],_=>rfl
 |e::L,h=>by obtain⟨i,k,s,b,rfl⟩:=h e (by simp);have:=B7 L fun x hx=>h x (by simp[hx]);unfold eC at this⊢;rw[List.map_cons,List.map_cons,List.map_cons,this];rfl
def gS(l:List Path)(n:Nat):List Path:=(Nw.CM n (Nw.pB n (l.map toFp) false) (Nw.pB n (l.map toFp) true)).map ML
theorem DE(hn:n≤64)(hl:l.length≤4096)(h:Sound l n):c7 [.rs 4 (l.map Path.pv),.int .i64 n]=some (.rs 4 ((gS l n).map Path.pv))∧fq [.rs 4 (l.map Path.pv),.int .i64 n]=some (.rs 4 ((gS l n).map Path.pv)):=by have:=Nw.Kp (l.map toFp) n hn (by simpa using hl) (fun p hp=>by obtain⟨q,hq,rfl⟩:=List.mem_map.1 hp;have:=h q hq;simp only[toFp];omega);rw[RB h,B7 _ (Nw.G2 n _ _)]at this;exact this
theorem G3(l:List Path)(n:Nat)(hn:n≤64):(gS l n).length≤8192:=by
 have h1:(gS l n).length=(eC (Nw.CM n (Nw.pB n (l.map toFp) false) (Nw.pB n (l.map toFp) true))).length:=by simp[gS,eC]
 rw[h1,Nw.yC];have h2:=Nw.xh (it:=fun i k=>Nw.Af (Nw.pB n (l.map toFp) false i k) (Nw.pB n (l.map toFp) true i k) i k) (fun i k=>Nw.EN _ _ i k) n n;have h3:2*n*n≤2*64*64:=Nat.mul_le_mul (Nat.mul_le_mul_left 2 hn) hn;omega
theorem G4(x y:Path):cB [cell x.pv 0,cell x.pv 1,cell x.pv 2,cell x.pv 3] [cell y.pv 0,cell y.pv 1,cell y.pv 2,cell y.pv 3]=decide (x=y):=by rw[Bool.eq_iff_iff];obtain⟨a,b,c,d⟩:=x;obtain⟨a',b',c',d'⟩:=y;simp[GX,GY,MJ,GZ,cB,peq]
theorem xi(x:Path):gP (Kd.int IntKind.i64::[].append (Kd.int IntKind.i64::[].append (Kd.int IntKind.i64::[].append (Kd.bool::[].append [])))) [cell x.pv 0,cell x.pv 1,cell x.pv 2,cell x.pv 3]=true:=rfl
def lr(l:List Path)(n:Nat):Bool:=decide (gS l n=l)
theorem G5(hn:n≤64)(hl:l.length≤4096)(h:(bU (dt l n) l.length).2=0):dq [.rs 4 (l.map Path.pv),.int .i64 n]=some (.bool (lr l n)):=by
 have hm:4096≤maxLen:=by decide
 have hs:=Ko l n (by omega);have hf:=OD _ _ h;rw[h,hf]at hs;have hc:=(DE hn hl (G1 h)).1;have sF:=G3 l n hn;have uV:¬decide ((n:Int)>64)=true:=by simp;omega
 have h0:¬(0:Int)>(n:Int):=by omega
 simp only[dq,lh,ae,asInt,if_true,U];rw[if_neg uV,hs];simp only[res,ca,List.length_cons,List.length_nil,Nat.reduceAdd,if_true,U,List.getD_cons_zero,List.getD_cons_succ,asInt,if_neg h0,hc,ae,List.length_map];rw[if_neg (by decide)];unfold lr;by_cases hlen:(gS l n).length=l.length
 ·rw[if_neg (by simp[kF,hlen])];have hr:=mz (gS l n) l hlen (some (PV.bool false)) (some (PV.bool true));have:some (PV.bool (decide (gS l n=l)))=if gS l n=l then some (PV.bool true)else some (PV.bool false):=by by_cases hc:gS l n=l<;>simp[hc]
  rw[this,←hr];refine aX (fun k=>(l.map Path.pv,(gS l n).map Path.pv,((gS l n).length:Int),(k:Int),())) (gS l n).length _ (fun k hk rec=>?_) (fun rec=>?_) ?_ rfl
  ·have h1:decide ((k:Int)<((gS l n).length:Int))=true:=by simp;omega
   have jB:k<l.length:=by omega
   unfold iV;dsimp only;rw[if_pos h1,az,List.getElem?_map,List.getElem?_eq_getElem hk,az,List.getElem?_map,List.getElem?_eq_getElem jB];simp only[Option.map_some,U];rw[if_pos ⟨xi _,xi _⟩,G4,an (by omega)];by_cases he:(gS l n)[k]=l[k]
   ·simp[he,c9]
   ·simp[he,c9]
  ·unfold iV;dsimp only;rw[if_neg (by simp)]
  ·have:=aS;omega
 ·rw[if_pos (by simp[kF];omega)];rw[decide_eq_false (fun hc=>hlen (by rw[hc]))]
def cW(l:List Path)(n:Nat):Int×Int:=if(bU (dt l n) l.length).2=0 then(if lr l n=true then(0,0)else(0,18))else bU (dt l n) l.length
def qJ(x:Int×Int×Bool):PV:=.agg [.int .i64 x.1,.int .i64 x.2.1,.int .i64 0,.bool x.2.2]
theorem aas(a b:Int×Int×Bool):cB (qJ a).cells (qJ b).cells=decide (a=b):=by obtain⟨a1,a2,a3⟩:=a;obtain⟨b1,b2,b3⟩:=b;rw[Bool.eq_iff_iff];simp[qJ,PV.cells,cB,peq]
theorem zD(N:ah)(l:List Path)(n:Nat)(hl:l.length≤4096)(hlen:(N.stops.map Stop.pv).length=n)(k:Nat)(hk:k<l.length)(rec:OE→Option PV):cS (l.map Path.pv,(l.length:Int),(k:Int),N.stops.map Stop.pv,N.ab.map av.pv,N.runs.map bE.pv,N.ai.map aH.pv,l.map Path.pv,N.ar.map aR.pv,N.aO,N.within,N.cap,0,0,0,seen qJ ((l.map bY).take k),()) rec=c9 (if dt l n k=0 then none else some (some (r3 4 k (dt l n k)))) (rec (l.map Path.pv,(l.length:Int),((k+1:Nat):Int),N.stops.map Stop.pv,N.ab.map av.pv,N.runs.map bE.pv,N.ai.map aH.pv,l.map Path.pv,N.ar.map aR.pv,N.aO,N.within,N.cap,0,0,0,seen qJ ((l.map bY).take (k+1)),())):=by
 have h1:decide ((k:Int)<(l.length:Int))=true:=by simp;omega
 have qq:eO (.agg [.int .i64 l[k].a,.int .i64 l[k].b,.int .i64 0,.bool l[k].free]) (.bool true) (seen qJ ((l.map bY).take k))=_:=mN aas (bY l[k]) ((l.map bY).take k);have rn:dJ (.agg [.int .i64 l[k].a,.int .i64 l[k].b,.int .i64 0,.bool l[k].free]) (.bool false) (seen qJ ((l.map bY).take k))=_:=kG aas (bY l[k]) ((l.map bY).take k);unfold cS;dsimp only;rw[if_pos h1,az,List.getElem?_map,List.getElem?_eq_getElem hk,hlen];simp only[Option.map_some,U,GX,GY,MJ,GZ,asInt,asBool,if_true,we,bm,fb,qq,rn,B6,MK,yA,wC,Ae,oT bY l k hk,an (show k<9223372036854775807 by omega)];have hA:(!(decide (l[k].a≥0)&&decide (l[k].a<(n:Int)))|| !(decide (l[k].b≥0)&&decide (l[k].b<(n:Int)))||decide (l[k].a=l[k].b))=(decide (l[k].a<0)||decide (l[k].a≥(n:Int))||decide (l[k].b<0)||decide (l[k].b≥(n:Int))||decide (l[k].a=l[k].b)):=by rw[Bool.eq_iff_iff];simp only[Bool.or_eq_true,Bool.not_eq_true',Bool.and_eq_false_iff,decide_eq_true_eq,decide_eq_false_iff_not];omega
 rw[hA];unfold dt;rw[List.getElem?_eq_getElem hk];simp only;generalize (decide (l[k].a<0)||decide (l[k].a≥(n:Int))||decide (l[k].b<0)||decide (l[k].b≥(n:Int))||decide (l[k].a=l[k].b))=A;generalize (decide (l[k].bT<1)||decide (l[k].bT>14400))=B;by_cases bO:bY l[k]∈(l.map bY).take k
 ·simp only[bO,if_true];cases A<;>cases B<;>rfl
 ·simp only[bO,if_false];cases A<;>cases B<;>rfl
theorem CN(N:ah)(hn:N.stops.length≤64)(hl:N.paths.length≤4096):bF [N.pv]=some (prt 4 (cW N.paths N.stops.length)):=by
 have hm:4096≤maxLen:=by decide
 simp only[bF,j5,qI,rq,rr,ru,ry,rz,rA,rB,rC,rD,U,List.length_map];generalize Ii:N.paths=l at hl⊢;generalize NM:N.stops.length=n at hn⊢;have hlen:(N.stops.map Stop.pv).length=n:=by simpa using NM
 have hg:=hU (dt l n) l.length (fun i e=>r3 4 i e) (some (if lr l n=true then r3 0 0 0 else r3 4 0 18));have hR:some (prt 4 (cW l n))=if(bU (dt l n) l.length).2=0 then some (if lr l n=true then r3 0 0 0 else r3 4 0 18)else some (r3 4 (bU (dt l n) l.length).1 (bU (dt l n) l.length).2):=by
  unfold cW prt;by_cases h:(bU (dt l n) l.length).2=0
  ·rw[if_pos h,if_pos h];cases lr l n<;>rfl
  ·rw[if_neg h,if_neg h,if_neg h]
 rw[hR,←hg];by_cases hz:(bU (dt l n) l.length).2=0
 ·refine aX (fun k=>(l.map Path.pv,(l.length:Int),(k:Int),N.stops.map Stop.pv,N.ab.map av.pv,N.runs.map bE.pv,N.ai.map aH.pv,l.map Path.pv,N.ar.map aR.pv,N.aO,N.within,N.cap,0,0,0,seen qJ ((l.map bY).take k),())) l.length _ (fun k hk rec=>zD N l n hl hlen k hk rec) (fun rec=>?_) ?_ rfl
  ·unfold cS;dsimp only;rw[if_neg (by simp),hlen,G5 hn hl hz];simp only[U,asBool,B6,MK,yA,wC,Ae];cases lr l n<;>rfl
  ·have:=aS;omega
 ·have sU:=aX (body:=cS) (fun k=>(l.map Path.pv,(l.length:Int),(k:Int),N.stops.map Stop.pv,N.ab.map av.pv,N.runs.map bE.pv,N.ai.map aH.pv,l.map Path.pv,N.ar.map aR.pv,N.aO,N.within,N.cap,0,0,0,seen qJ ((l.map bY).take k),())) l.length _ (fin:=cS (l.map Path.pv,(l.length:Int),(l.length:Int),N.stops.map Stop.pv,N.ab.map av.pv,N.runs.map bE.pv,N.ai.map aH.pv,l.map Path.pv,N.ar.map aR.pv,N.aO,N.within,N.cap,0,0,0,seen qJ ((l.map bY).take l.length),()) fun _=>none) (fun k hk rec=>zD N l n hl hlen k hk rec) (fun rec=>?_) (by have:=aS;omega) (s0:=(l.map Path.pv,(l.length:Int),0,N.stops.map Stop.pv,N.ab.map av.pv,N.runs.map bE.pv,N.ai.map aH.pv,l.map Path.pv,N.ar.map aR.pv,N.aO,N.within,N.cap,0,0,0,[],())) rfl
  ·rw[sU,hU,hU,if_neg hz,if_neg hz]
  ·unfold cS;dsimp only;rw[if_neg (by simp),if_neg (by simp)]
end Go.Ab.Tt
namespace Go.Ab.Tt
set_option maxRecDepth 100000
set_option linter.unusedVariables false
set_option linter.unusedSimpArgs false
theorem EO(N:ah)(l:List Path)(hl:l.length≤4096)(i:Nat)(hi:i<l.length)(ff:CO→Option PV):cd.run (lu ff) ((i:Int),0,N.stops.map Stop.pv,N.ab.map av.pv,N.runs.map bE.pv,N.ai.map aH.pv,l.map Path.pv,N.ar.map aR.pv,N.aO,N.within,N.cap,.int .i64 l[i].a,.int .i64 l[i].b,.int .i64 l[i].bT,.bool l[i].free,())=if bY l[i]∈(l.map bY).take i then some (res i 6)else ff (IntKind.i64.wrap ((i:Int)+1),N.stops.map Stop.pv,N.ab.map av.pv,N.runs.map bE.pv,N.ai.map aH.pv,l.map Path.pv,N.ar.map aR.pv,N.aO,N.within,N.cap,()):=by
 have hm:4096≤maxLen:=by decide
 refine(oW (fun k=>((i:Int),(k:Int),N.stops.map Stop.pv,N.ab.map av.pv,N.runs.map bE.pv,N.ai.map aH.pv,l.map Path.pv,N.ar.map aR.pv,N.aO,N.within,N.cap,PV.int .i64 l[i].a,PV.int .i64 l[i].b,PV.int .i64 l[i].bT,PV.bool l[i].free,())) i (fun k=>decide ((l.map bY)[k]?=some (bY l[i]))) (no:=some (res i 6)) (fin:=ff (IntKind.i64.wrap ((i:Int)+1),N.stops.map Stop.pv,N.ab.map av.pv,N.runs.map bE.pv,N.ai.map aH.pv,l.map Path.pv,N.ar.map aR.pv,N.aO,N.within,N.cap,())) (fun k hk rec=>?_) (fun rec=>?_) ?_ rfl).trans ?_
 ·have h1:decide ((k:Int)<(i:Int))=true:=by simp;omega
  have jB:k<l.length:=by omega
  have hd:decide ((l.map bY)[k]?=some (bY l[i]))=(decide (l[k].a=l[i].a)&&decide (l[k].b=l[i].b)&&decide (l[k].free=l[i].free)):=by rw[Bool.eq_iff_iff];simp[List.getElem?_eq_getElem jB,bY,and_assoc]
  rw[hd];unfold lu;dsimp only;rw[if_pos h1,az,List.getElem?_map,List.getElem?_eq_getElem jB];simp only[Option.map_some,U,GX,GY,GZ,asInt,asBool,if_true,an (show k<9223372036854775807 by omega),fb,dG];rfl
 ·unfold lu;dsimp only;rw[if_neg (by simp)]
 ·have:=aS;omega
 ·rw[Au _ _ (by simp;omega)];simp only[decide_eq_true_eq]
theorem OG(N:ah)(hn:N.stops.length≤64)(hl:N.paths.length≤4096):jG [N.pv]=some (res (cW N.paths N.stops.length).1 (cW N.paths N.stops.length).2):=by
 have hm:4096≤maxLen:=by decide
 simp only[jG,tJ,qI,rq,rr,ru,ry,rz,rA,rB,rC,rD,U];generalize Ii:N.paths=l at hl⊢;generalize NM:N.stops.length=n at hn⊢;have hlen:(N.stops.map Stop.pv).length=n:=by simpa using NM
 have hw:IntKind.i64.wrap ((n:Int)-1)=(n:Int)-1:=fy (by omega) (by omega);have RC:∀k,(hk:k<l.length)→∀rec,fv cd ((k:Int),N.stops.map Stop.pv,N.ab.map av.pv,N.runs.map bE.pv,N.ai.map aH.pv,l.map Path.pv,N.ar.map aR.pv,N.aO,N.within,N.cap,()) rec=c9 (if dt l n k=0 then none else some (some (res k (dt l n k)))) (rec (((k+1:Nat):Int),N.stops.map Stop.pv,N.ab.map av.pv,N.runs.map bE.pv,N.ai.map aH.pv,l.map Path.pv,N.ar.map aR.pv,N.aO,N.within,N.cap,())):=by
  intro k hk rec;have h1:decide ((k:Int)<((l.map Path.pv).length:Int))=true:=by simp;omega
  have pP:=EO N l hl k hk rec;unfold fv;dsimp only;rw[if_pos h1,az,List.getElem?_map,List.getElem?_eq_getElem hk,hlen,hw];simp only[Option.map_some,U,GX,GY,MJ,GZ,asInt,asBool,if_true,B3,bm,fb,pP,an (show k<9223372036854775807 by omega)];have hA:(!(decide (l[k].a≥0)&&decide (l[k].a≤(n:Int)-1))|| !(decide (l[k].b≥0)&&decide (l[k].b≤(n:Int)-1))||decide (l[k].a=l[k].b))=(decide (l[k].a<0)||decide (l[k].a≥(n:Int))||decide (l[k].b<0)||decide (l[k].b≥(n:Int))||decide (l[k].a=l[k].b)):=by rw[Bool.eq_iff_iff];simp only[Bool.or_eq_true,Bool.not_eq_true',Bool.and_eq_false_iff,decide_eq_true_eq,decide_eq_false_iff_not];omega
  have hB:(!(decide (l[k].bT≥1)&&decide (l[k].bT≤14400)))=(decide (l[k].bT<1)||decide (l[k].bT>14400)):=by rw[Bool.eq_iff_iff];simp only[Bool.or_eq_true,Bool.not_eq_true',Bool.and_eq_false_iff,decide_eq_true_eq,decide_eq_false_iff_not];omega
  rw[hA,hB];unfold dt;rw[List.getElem?_eq_getElem hk];simp only;generalize (decide (l[k].a<0)||decide (l[k].a≥(n:Int))||decide (l[k].b<0)||decide (l[k].b≥(n:Int))||decide (l[k].a=l[k].b))=A;generalize (decide (l[k].bT<1)||decide (l[k].bT>14400))=B;by_cases bO:bY l[k]∈(l.map bY).take k
  ·simp only[bO,if_true];cases A<;>cases B<;>rfl
  ·simp only[bO,if_false];cases A<;>cases B<;>rfl
 have hg:=hU (dt l n) l.length (fun i e=>res i e) (some (if lr l n=true then res 0 0 else res 0 18));have hR:some (res (cW l n).1 (cW l n).2)=if(bU (dt l n) l.length).2=0 then some (if lr l n=true then res 0 0 else res 0 18)else some (res (bU (dt l n) l.length).1 (bU (dt l n) l.length).2):=by
  unfold cW;by_cases h:(bU (dt l n) l.length).2=0
  ·rw[if_pos h,if_pos h];cases lr l n<;>rfl
  ·rw[if_neg h,if_neg h]
 rw[hR,←hg];by_cases hz:(bU (dt l n) l.length).2=0
 ·refine aX (fun k=>((k:Int),N.stops.map Stop.pv,N.ab.map av.pv,N.runs.map bE.pv,N.ai.map aH.pv,l.map Path.pv,N.ar.map aR.pv,N.aO,N.within,N.cap,())) l.length _ RC (fun rec=>?_) ?_ rfl
  ·have hc:=(DE hn hl (G1 hz)).2;have sF:=G3 l n hn;unfold fv;dsimp only;rw[if_neg (by simp),hlen,hc];simp only[U,ae,if_true,List.length_map];unfold lr;by_cases RD:(gS l n).length=l.length
   ·rw[if_neg (by simp[kF,RD])];have hr:=mz (gS l n) l RD (some (res 0 18)) (some (res 0 0));have:some (if decide (gS l n=l)=true then res 0 0 else res 0 18)=if gS l n=l then some (res 0 0)else some (res 0 18):=by by_cases hc:gS l n=l<;>simp[hc]
    rw[this,←hr];refine aX (fun k=>((gS l n).map Path.pv,(k:Int),N.stops.map Stop.pv,N.ab.map av.pv,N.runs.map bE.pv,N.ai.map aH.pv,l.map Path.pv,N.ar.map aR.pv,N.aO,N.within,N.cap,())) (gS l n).length _ (fun k hk rec=>?_) (fun rec=>?_) ?_ rfl
    ·have h1:decide ((k:Int)<(((gS l n).map Path.pv).length:Int))=true:=by simp;omega
     have jB:k<l.length:=by omega
     unfold oZ;dsimp only;rw[if_pos h1,az,List.getElem?_map,List.getElem?_eq_getElem hk,az,List.getElem?_map,List.getElem?_eq_getElem jB];simp only[Option.map_some,U];rw[if_pos ⟨xi _,xi _⟩,G4,an (by omega)];by_cases he:(gS l n)[k]=l[k]
     ·simp[he,c9]
     ·simp[he,c9,res]
    ·unfold oZ;dsimp only;rw[if_neg (by simp)];rfl
    ·have:=aS;omega
   ·rw[if_pos (by simp[kF];omega)];rw[decide_eq_false (fun hc=>RD (by rw[hc]))];rfl
  ·have:=aS;omega
 ·have sU:=aX (body:=fv cd) (fun k=>((k:Int),N.stops.map Stop.pv,N.ab.map av.pv,N.runs.map bE.pv,N.ai.map aH.pv,l.map Path.pv,N.ar.map aR.pv,N.aO,N.within,N.cap,())) l.length _ (fin:=fv cd ((l.length:Int),N.stops.map Stop.pv,N.ab.map av.pv,N.runs.map bE.pv,N.ai.map aH.pv,l.map Path.pv,N.ar.map aR.pv,N.aO,N.within,N.cap,()) fun _=>none) RC (fun rec=>?_) (by have:=aS;omega) (s0:=(0,N.stops.map Stop.pv,N.ab.map av.pv,N.runs.map bE.pv,N.ai.map aH.pv,l.map Path.pv,N.ar.map aR.pv,N.aO,N.within,N.cap,())) rfl
  ·rw[sU,hU,hU,if_neg hz,if_neg hz]
  ·unfold fv;dsimp only;rw[if_neg (by simp),if_neg (by simp)]
end Go.Ab.Tt
namespace Go.Ab.Tt
set_option maxRecDepth 100000
set_option linter.unusedVariables false
set_option linter.unusedSimpArgs false
def bD(x:bE):Bytes×Int×Int:=(x.id,x.day,x.inst)
def G6(x:Bytes×Int×Int):PV:=.agg [.str x.1,.int .i64 x.2.1,.int .i64 x.2.2]
theorem RE(a b:Bytes×Int×Int):cB (G6 a).cells (G6 b).cells=decide (a=b):=by obtain⟨a1,a2,a3⟩:=a;obtain⟨b1,b2,b3⟩:=b;rw[Bool.eq_iff_iff];simp[G6,PV.cells,cB,peq]
def iW(l:List bE)(stops ab:Int)(k:Nat):Int:=match l[k]? with
 |none=>0
 |some x=>if eM x.id=false then 12 else if(decide (x.dv< -1)||decide (x.inst<0))=true then 2 else if(decide (x.day<0)||decide (x.day>36524))=true then 11 else if(decide (x.bj<0)||decide (x.bj≥ab))=true then 9 else if(bw x.calls stops 0 3155932800).2=0 then(if bD x∈(l.map bD).take k then 6 else 0)else(bw x.calls stops 0 3155932800).2
def ga(l:List bE)(stops ab:Int):Int×Int:=if l.length>1024 then(0,5)else bU (iW l stops ab) l.length
theorem Kq(N:ah)(l:List bE)(hl:l.length≤maxLen∧∀y∈l,y.Ok)(k:Nat)(hk:k<l.length)(rec:OE→Option PV):fL (l.map bE.pv,(l.length:Int),(k:Int),N.stops.map Stop.pv,N.ab.map av.pv,l.map bE.pv,N.ai.map aH.pv,N.paths.map Path.pv,N.ar.map aR.pv,N.aO,N.within,N.cap,0,0,0,seen G6 ((l.map bD).take k),()) rec=c9 (if iW l N.stops.length N.ab.length k=0 then none else some (some (r3 2 k (iW l N.stops.length N.ab.length k)))) (rec (l.map bE.pv,(l.length:Int),((k+1:Nat):Int),N.stops.map Stop.pv,N.ab.map av.pv,l.map bE.pv,N.ai.map aH.pv,N.paths.map Path.pv,N.ar.map aR.pv,N.aO,N.within,N.cap,0,0,0,seen G6 ((l.map bD).take (k+1)),())):=by
 have hm:=aW;have h1:decide ((k:Int)<(l.length:Int))=true:=by simp;omega
 have hO:=hl.2 _ (List.getElem_mem hk);have hid:=tU l[k].id hO.id;have gy:=nS l[k].calls N.stops.length 0 3155932800 hO.calls.1;simp only[res]at gy;have qq:eO (.agg [.str l[k].id,.int .i64 l[k].day,.int .i64 l[k].inst]) (.bool true) (seen G6 ((l.map bD).take k))=_:=mN RE (bD l[k]) ((l.map bD).take k);have rn:dJ (.agg [.str l[k].id,.int .i64 l[k].day,.int .i64 l[k].inst]) (.bool false) (seen G6 ((l.map bD).take k))=_:=kG RE (bD l[k]) ((l.map bD).take k);unfold fL;dsimp only;rw[if_pos h1,az,List.getElem?_map,List.getElem?_eq_getElem hk];simp only[Option.map_some,U,Uo,OA,OB,OC,Up,EM,bu,asInt,asBool,ae,if_true,List.length_map,hid,gy,ca,List.length_cons,List.length_nil,Nat.reduceAdd,List.getD_cons_zero,List.getD_cons_succ,bm,kF,qq,rn,B6,MK,yA,wC,Ae,oT bD l k hk,an (show k<9223372036854775807 by omega)];unfold iW;rw[List.getElem?_eq_getElem hk];simp only;generalize (decide (l[k].dv< -1)||decide (l[k].inst<0))=A;generalize (decide (l[k].day<0)||decide (l[k].day>36524))=B;generalize (decide (l[k].bj<0)||decide (l[k].bj≥(N.ab.length:Int)))=C;generalize (bw l[k].calls N.stops.length 0 3155932800).2=e;cases eM l[k].id with
 |false=>rfl
 |true=>
  cases A with
  |true=>rfl
  |false=>
   cases B with
   |true=>rfl
   |false=>
    cases C with
    |true=>rfl
    |false=>
     simp only[Bool.not_true,Bool.false_eq_true,Bool.true_eq_false,if_false];by_cases he:e=0
     ·subst he;by_cases bO:bD l[k]∈(l.map bD).take k
      ·simp only[bO,if_true,decide_true,Bool.not_true,Bool.false_eq_true,if_false];rfl
      ·simp only[bO,if_true,decide_true,decide_false,Bool.not_true,Bool.false_eq_true,if_false];rfl
     ·simp only[he,if_false,if_true,decide_false,Bool.not_false];rfl
theorem EP(N:ah)(hl:N.runs.length≤maxLen∧∀y∈N.runs,y.Ok):dp [N.pv]=some (prt 2 (ga N.runs N.stops.length N.ab.length)):=by
 have hm:=aW;simp only[dp,la,qI,rq,rr,ru,ry,rz,rA,rB,rC,rD,U,List.length_map];generalize Ii:N.runs=l at hl⊢;unfold ga;by_cases uV:l.length>1024
 ·rw[if_pos (by simp;omega),if_pos uV];rfl
 ·rw[if_neg (by simp;omega),if_neg uV];have hR:some (prt 2 (bU (iW l N.stops.length N.ab.length) l.length))=if(bU (iW l N.stops.length N.ab.length) l.length).2=0 then some (r3 0 0 0)else some (r3 2 (bU (iW l N.stops.length N.ab.length) l.length).1 (bU (iW l N.stops.length N.ab.length) l.length).2):=by
   unfold prt;by_cases h:(bU (iW l N.stops.length N.ab.length) l.length).2=0
   ·rw[if_pos h,if_pos h]
   ·rw[if_neg h,if_neg h]
  rw[hR,←hU (iW l N.stops.length N.ab.length) l.length (fun i e=>r3 2 i e)];refine aX (fun k=>(l.map bE.pv,(l.length:Int),(k:Int),N.stops.map Stop.pv,N.ab.map av.pv,l.map bE.pv,N.ai.map aH.pv,N.paths.map Path.pv,N.ar.map aR.pv,N.aO,N.within,N.cap,0,0,0,seen G6 ((l.map bD).take k),())) l.length _ (fun k hk rec=>Kq N l hl k hk rec) (fun rec=>?_) ?_ rfl
  ·unfold fL;dsimp only;rw[if_neg (by simp)];rfl
  ·have:=aS;omega
theorem Kr(N:ah)(l:List bE)(hl:l.length≤maxLen)(i:Nat)(hi:i<l.length):cd.run nG ((i:Int),0,N.stops.map Stop.pv,N.ab.map av.pv,l.map bE.pv,N.ai.map aH.pv,N.paths.map Path.pv,N.ar.map aR.pv,N.aO,N.within,N.cap,.int .i64 l[i].dv,.int .i64 l[i].day,.int .i64 l[i].inst,.str l[i].id,.int .i64 l[i].bj,.bool l[i].free,.bool l[i].qH,.rs 5 (l[i].calls.map aw.pv),())=if bD l[i]∈(l.map bD).take i then some (.int .i64 6)else some (.int .i64 0):=by
 have hm:=aW;refine(oW (fun k=>((i:Int),(k:Int),N.stops.map Stop.pv,N.ab.map av.pv,l.map bE.pv,N.ai.map aH.pv,N.paths.map Path.pv,N.ar.map aR.pv,N.aO,N.within,N.cap,PV.int .i64 l[i].dv,PV.int .i64 l[i].day,PV.int .i64 l[i].inst,PV.str l[i].id,PV.int .i64 l[i].bj,PV.bool l[i].free,PV.bool l[i].qH,PV.rs 5 (l[i].calls.map aw.pv),())) i (fun k=>decide ((l.map bD)[k]?=some (bD l[i]))) (no:=some (.int .i64 6)) (fin:=some (.int .i64 0)) (fun k hk rec=>?_) (fun rec=>?_) ?_ rfl).trans ?_
 ·have h1:decide ((k:Int)<(i:Int))=true:=by simp;omega
  have jB:k<l.length:=by omega
  have hd:decide ((l.map bD)[k]?=some (bD l[i]))=(decide (l[k].id=l[i].id)&&decide (l[k].day=l[i].day)&&decide (l[k].inst=l[i].inst)):=by rw[Bool.eq_iff_iff];simp[List.getElem?_eq_getElem jB,bD,and_assoc]
  rw[hd];unfold nG;dsimp only;rw[if_pos h1,az,List.getElem?_map,List.getElem?_eq_getElem jB];simp only[Option.map_some,U,OA,OB,OC,asInt,bu,if_true,an (show k<9223372036854775807 by omega),fb,dG]
 ·unfold nG;dsimp only;rw[if_neg (by simp)]
 ·have:=aS;omega
 ·rw[Au _ _ (by simp;omega)];simp only[decide_eq_true_eq]
theorem Uq(N:ah)(hl:N.runs.length≤maxLen∧∀y∈N.runs,y.Ok)(k:Nat)(hk:k<N.runs.length):mO [N.pv,.int .i64 k]=some (.int .i64 (iW N.runs N.stops.length N.ab.length k)):=by
 have hm:=aW;have hO:=hl.2 _ (List.getElem_mem hk);simp only[mO,yz,qI,rq,rr,ru,ry,rz,rA,rB,rC,rD,U];generalize Ii:N.runs=l at hl hk hO⊢;have hO':l[k].Ok:=by subst Ii;exact hO
 have hid:=so l[k].id hO'.id;have gy:=Oz l[k].calls N.stops.length 0 3155932800 hO'.calls.1;have pP:=Kr N l hl.1 k hk;simp only[asInt,if_true,U,az,List.getElem?_map,List.getElem?_eq_getElem hk,Option.map_some,Uo,OA,OB,OC,Up,Xv,Xw,EM,bu,asBool,ae,List.length_map,hid,gy,B3,bm,kF,pP];unfold iW;rw[List.getElem?_eq_getElem hk];simp only;have hB:(!(decide (l[k].day≥0)&&decide (l[k].day≤36524)))=(decide (l[k].day<0)||decide (l[k].day>36524)):=by rw[Bool.eq_iff_iff];simp only[Bool.or_eq_true,Bool.not_eq_true',Bool.and_eq_false_iff,decide_eq_true_eq,decide_eq_false_iff_not];omega
 rw[hB];generalize (decide (l[k].dv< -1)||decide (l[k].inst<0))=A;generalize (decide (l[k].day<0)||decide (l[k].day>36524))=B;generalize (decide (l[k].bj<0)||decide (l[k].bj≥(N.ab.length:Int)))=C;generalize (bw l[k].calls N.stops.length 0 3155932800).2=e;cases eM l[k].id with
 |false=>rfl
 |true=>
  cases A with
  |true=>rfl
  |false=>
   cases B with
   |true=>rfl
   |false=>
    cases C with
    |true=>rfl
    |false=>
     simp only[Bool.not_true,Bool.false_eq_true,Bool.true_eq_false,if_false];by_cases he:e=0
     ·subst he;by_cases bO:bD l[k]∈(l.map bD).take k
      ·simp only[bO,if_true,decide_true,Bool.not_true,Bool.false_eq_true,if_false]
      ·simp only[bO,if_true,decide_true,Bool.not_true,Bool.false_eq_true,if_false]
     ·simp only[he,if_false,if_true,decide_false,Bool.not_false]
end Go.Ab.Tt
namespace Go.Ab.Tt
set_option maxRecDepth 100000
set_option linter.unusedVariables false
set_option linter.unusedSimpArgs false
def nx(p:List aH)(v:Int):Option Int:=p.foldl (fun o x=>if(x.stay&&decide (x.a=v))=true then some x.b else o) none
theorem Xx(v:Int):nx [] v=none:=rfl
theorem pS(p:List aH)(x:aH)(v:Int):nx (p++[x]) v=if(x.stay&&decide (x.a=v))=true then some x.b else nx p v:=by unfold nx;rw[List.foldl_append];rfl
def it(f:Int→Option Int):Nat→Int→Option Int
 |0,v=>some v
 |m+1,v=>(f v).bind (it f m)
theorem MM(f:Int→Option Int)(m:Nat)(v:Int):it f (m+1) v=(it f m v).bind f:=by
 induction m generalizing v with
 |zero=>show(f v).bind (it f 0)=f v;cases h:f v<;>rfl
 |succ m ih=>
  show(f v).bind (it f (m+1))=((f v).bind (it f m)).bind f;cases h:f v with
  |none=>rfl
  |some w=>exact ih w
def lv(p:List aH)(a b:Int)(n:Nat):Bool:=(List.range n).any fun t=>decide (it (nx p) (t+1) a=some b)
def wg(f:Int→Option Int):Prop:=∃r:Int→Nat,∀v w,f v=some w→r w<r v
theorem Ks:wg (nx []):=⟨fun _=>0,fun v w h=>by cases h⟩
variable{p:List aH}
theorem Kt{v w:Int}(h:nx p v=some w):∃x∈p,x.stay=true∧x.a=v∧x.b=w:=by
 have key:∀n,n≤p.length→nx (p.take n) v=some w→∃x∈p,x.stay=true∧x.a=v∧x.b=w:=by
  intro n;induction n with
  |zero=>intro _ h;cases h
  |succ n ih=>
   intro hn h;have NM:n<p.length:=by omega
   rw[List.take_succ_eq_append_getElem NM,pS]at h;by_cases hc:(p[n].stay&&decide (p[n].a=v))=true
   ·rw[if_pos hc]at h;simp only[Bool.and_eq_true,decide_eq_true_eq]at hc;exact⟨p[n],List.getElem_mem NM,hc.1,hc.2,by simpa using h⟩
   ·rw[if_neg hc]at h;exact ih (by omega) h
 exact key p.length (Nat.le_refl _) (by rw[List.take_length];exact h)
theorem Ku{f:Int→Option Int}(hf:wg f)(S:List Int)(hS:∀v w,f v=some w→v∈S):∀m v,it f m v≠none→m≤S.length:=by
 obtain⟨r,hr⟩:=hf;induction hn:S.length generalizing S f r with
 |zero=>
  intro m v h;cases m with
  |zero=>omega
  |succ m=>
   exfalso;cases Xy:f v with
   |none=>exact h (by show(f v).bind _=none;rw[Xy];rfl)
   |some w=>have:=hS v w Xy;rw[List.length_eq_zero_iff.1 hn]at this;cases this
 |succ n ih=>
  intro m v h;cases m with
  |zero=>omega
  |succ m=>
   cases Xy:f v with
   |none=>exact absurd (by show(f v).bind _=none;rw[Xy];rfl) h
   |some w=>
    have hvS:=hS v w Xy;let g:Int→Option Int:=fun x=>if x=v then none else f x;have hg:∀x y,g x=some y→r y<r x:=fun x y Ur=>by
     by_cases hx:x=v
     ·simp[g,hx]at Ur
     ·simp only[g,hx,if_false]at Ur;exact hr x y Ur
    have hgS:∀x y,g x=some y→x∈S.erase v:=fun x y Ur=>by
     by_cases hx:x=v
     ·simp[g,hx]at Ur
     ·simp only[g,hx,if_false]at Ur;exact(List.mem_erase_of_ne hx).2 (hS x y Ur)
    have hlen:(S.erase v).length=n:=by rw[List.length_erase_of_mem hvS];omega
    have QQ:∀k x,r x<r v→it g k x=it f k x:=by
     intro k;induction k with
     |zero=>intros;rfl
     |succ k Wy=>
      intro x hx;have hxv:x≠v:=fun h=>by subst h;omega
      show(g x).bind (it g k)=(f x).bind (it f k);have:g x=f x:=by simp[g,hxv]
      rw[this];cases hfx:f x with
      |none=>rfl
      |some y=>exact Wy y (by have:=hr x y hfx;omega)
    have hw:it f m w≠none:=by intro hc;apply h;show(f v).bind (it f m)=none;rw[Xy];exact hc
    have:=ih (S.erase v) hgS r hg hlen m w (by rw[QQ m w (hr v w Xy)];exact hw);omega
theorem ER(hp:wg (nx p)){m:Nat}(hm:p.length<m)(v:Int):it (nx p) m v=none:=by
 cases h:it (nx p) m v with
 |none=>rfl
 |some w=>have:=Ku hp (p.map aH.a) (fun x y Ur=>by obtain⟨l,h1,h2,h3,h4⟩:=Kt Ur;exact List.mem_map.2 ⟨l,h1,h3⟩) m v (by rw[h];exact fun h=>nomatch h);rw[List.length_map]at this;omega
theorem G7(hp:wg (nx p))(x:aH)(h:x.stay=false∨(x.a≠x.b∧nx p x.a=none∧lv p x.b x.a (p.length+1)=false)):wg (nx (p++[x])):=by
 cases hs:x.stay with
 |false=>obtain⟨r,hr⟩:=hp;refine⟨r,fun v w MN=>hr v w ?_⟩;rw[pS,hs,Bool.false_and,if_neg (by simp)]at MN;exact MN
 |true=>
  rw[hs]at h;rcases h with h|⟨qN,hna,RF⟩
  ·cases h
  have CA:=hp;obtain⟨r,hr⟩:=hp;have yj:∀t,it (nx p) (t+1) x.b≠some x.a:=by
   intro t ht;by_cases bq:t<p.length+1
   ·unfold lv at RF;rw[List.any_eq_false]at RF;exact RF t (by simpa using bq) (by simpa using ht)
   ·rw[ER CA (by omega)]at ht;cases ht
  let R:Int→Prop:=fun v=>∃t,it (nx p) t v=some x.a;have hRb:¬R x.b:=fun⟨t,ht⟩=>by
   cases t with
   |zero=>exact qN (by simpa[it]using ht.symm)
   |succ t=>exact yj t ht
  refine⟨fun v=>open Classical in if R v then r v+r x.b+1 else r v,fun v w MN=>?_⟩;rw[pS,hs,Bool.true_and]at MN;by_cases hv:x.a=v
  ·rw[if_pos (by simpa using hv)]at MN;simp only[Option.some.injEq]at MN;subst MN;have YR:R v:=⟨0,by show some v=some x.a;rw[hv]⟩;show(open Classical in if R x.b then r x.b+r x.b+1 else r x.b)<(open Classical in if R v then r v+r x.b+1 else r v);rw[if_neg hRb,if_pos YR];omega
  ·rw[if_neg (by simpa using hv)]at MN;have bq:=hr v w MN;show(open Classical in if R w then r w+r x.b+1 else r w)<(open Classical in if R v then r v+r x.b+1 else r v);by_cases hw:R w
   ·have YR:R v:=by obtain⟨t,ht⟩:=hw;exact⟨t+1,by show(nx p v).bind (it (nx p) t)=some x.a;rw[MN];exact ht⟩
    rw[if_pos hw,if_pos YR];omega
   ·rw[if_neg hw];by_cases YR:R v
    ·rw[if_pos YR];omega
    ·rw[if_neg YR];exact bq
end Go.Ab.Tt
namespace Go.Ab.Tt
set_option maxRecDepth 100000
set_option linter.unusedVariables false
set_option linter.unusedSimpArgs false
def pT(a:Int):PV:=.int .i64 a
def cn(x:aH):Int×Int×Int×Int:=(x.a,x.ac,x.b,x.bc)
def G8(x:Int×Int×Int×Int):PV:=.agg [.int .i64 x.1,.int .i64 x.2.1,.int .i64 x.2.2.1,.int .i64 x.2.2.2]
theorem RG(a b:Int×Int×Int×Int):cB (G8 a).cells (G8 b).cells=decide (a=b):=by obtain⟨a1,a2,a3,a4⟩:=a;obtain⟨b1,b2,b3,b4⟩:=b;rw[Bool.eq_iff_iff];simp[G8,PV.cells,cB,peq]
def vG(p:List aH):List (Int×PV):=p.foldl (fun m x=>if x.stay=true then wh x.a (.int .i64 x.b) m else m) []
theorem wj(p:List aH)(x:aH):vG (p++[x])=if x.stay=true then wh x.a (.int .i64 x.b) (vG p)else vG p:=by unfold vG;rw[List.foldl_append];rfl
def Kv(a:Int)(m:List (Int×PV)):Bool:=m.any fun x=>decide (a=x.1)
theorem MO(a:Int):∀m,sO (pT a) (sI pT m)=Kv a m
 |[]=>rfl
 |(b,u)::r=>by have:=MO a r;simp only[sI]at this;simp only[sI,List.map_cons,sO,Kv,List.any_cons];rw[this];have:cB (pT a).cells (pT b).cells=decide (a=b):=xj a b;rw[this];rfl
theorem G9(a b:Int)(v:PV):∀m,Kv a (wh b v m)=(decide (a=b)||Kv a m)
 |[]=>by simp[Kv,wh]
 |(c,u)::r=>by
  have:=G9 a b v r;simp only[Kv]at this⊢;by_cases h:b=c
  ·subst h;simp[wh]
  ·simp only[wh,h,if_false,List.any_cons,this];cases decide (a=c)<;>simp
theorem tV{A:Type}{P:List A→Prop}(h0:P [])(h1:∀p x,P p→P (p++[x]))(l:List A):P l:=by
 have key:∀n,n≤l.length→P (l.take n):=by
  intro n;induction n with
  |zero=>intro _;rw[List.take_zero];exact h0
  |succ n ih=>intro hn;rw[List.take_succ_eq_append_getElem (show n<l.length by omega)];exact h1 _ _ (ih (by omega))
 have:=key l.length (Nat.le_refl _);rw[List.take_length]at this;exact this
theorem OH(p:List aH)(v:Int):tW v (.int .i64 0) (vG p)=.int .i64 ((nx p v).getD 0):=by
 induction p using tV with
 |h0=>rfl
 |h1 p x ih=>
  rw[wj,pS];cases hs:x.stay with
  |false=>rw[if_neg (by simp),Bool.false_and,if_neg (by simp)];exact ih
  |true=>
   rw[if_pos rfl,yD,Bool.true_and];by_cases h:x.a=v
   ·rw[if_pos h.symm,if_pos (by simpa using h)];rfl
   ·rw[if_neg (fun hc=>h hc.symm),if_neg (by simpa using h)];exact ih
theorem RH(p:List aH)(v:Int):Kv v (vG p)=(nx p v).isSome:=by
 induction p using tV with
 |h0=>rfl
 |h1 p x ih=>
  rw[wj,pS];cases hs:x.stay with
  |false=>rw[if_neg (by simp),Bool.false_and,if_neg (by simp)];exact ih
  |true=>
   rw[if_pos rfl,G9,Bool.true_and];by_cases h:x.a=v
   ·rw[if_pos (by simpa using h)];simp[h]
   ·rw[if_neg (by simpa using h),ih];have:decide (v=x.a)=false:=by simpa using fun hc=>h hc.symm
    rw[this,Bool.false_or]
def mP(p:List aH):List (PV×PV):=sI pT (vG p)
theorem wk(p:List aH)(v:Int):dJ (.int .i64 v) (.int .i64 0) (mP p)=.int .i64 ((nx p v).getD 0):=by have:=B8 (key:=pT) xj v (.int .i64 0) (vG p);rw[OH]at this;exact this
theorem yE(p:List aH)(v:Int):sO (.int .i64 v) (mP p)=(nx p v).isSome:=by have:=MO v (vG p);rw[RH]at this;exact this
theorem Kw(p:List aH)(x:aH):mP (p++[x])=if x.stay=true then eO (.int .i64 x.a) (.int .i64 x.b) (mP p)else mP p:=by
 have:=ES (key:=pT) xj x.a (.int .i64 x.b) (vG p);unfold mP;rw[wj];by_cases h:x.stay=true
 ·rw[if_pos h,if_pos h];exact this.symm
 ·rw[if_neg h,if_neg h]
def jH(p:List aH):List Int:=(p.filter aH.stay).map aH.b
theorem Kx(p:List aH)(x:aH):jH (p++[x])=if x.stay=true then jH p++[x.b]else jH p:=by unfold jH;by_cases h:x.stay=true<;>simp[List.filter_append,List.filter_cons,h]
theorem OI(p:List aH)(v:Int):(nx p v).isSome=p.any fun y=>y.stay&&decide (y.a=v):=by
 induction p using tV with
 |h0=>rfl
 |h1 p x ih=>
  rw[pS,List.any_append,←ih];by_cases h:(x.stay&&decide (x.a=v))=true
  ·rw[if_pos h];simp only[List.any_cons,List.any_nil,h];simp
  ·rw[if_neg h];simp only[List.any_cons,List.any_nil,h];simp
theorem RI(p:List aH)(v:Int):decide (v∈jH p)=p.any fun y=>y.stay&&decide (y.b=v):=by
 rw[Bool.eq_iff_iff,decide_eq_true_eq];simp only[jH,decide_eq_true_eq,List.mem_map,List.mem_filter,List.any_eq_true,Bool.and_eq_true];constructor
 ·rintro⟨x,⟨h1,h2⟩,h3⟩;exact⟨x,h1,h2,h3⟩
 ·rintro⟨x,h1,h2,h3⟩;exact⟨x,⟨h1,h2⟩,h3⟩
def Xz(f:Int→Option Int)(a b:Int)(t:Nat):Option (Option PV):=(it f (t+1) a).elim (some (some (.bool false))) fun v=>if v=b then some (some (.bool true))else none
theorem Ky(f:Int→Option Int)(b:Int)(n:Nat):∀a,it f (n+1) a=none→c9 ((List.range n).findSome? (Xz f a b)) (some (.bool false))=some (.bool ((List.range (n+1)).any fun t=>decide (it f (t+1) a=some b))):=by
 induction n with
 |zero=>intro a h;simp[c9,h]
 |succ n ih=>
  intro a h;rw[List.range_succ_eq_map (n:=n+1),List.range_succ_eq_map (n:=n),List.findSome?_cons,List.any_cons];have h0:it f (0+1) a=f a:=by show(f a).bind (it f 0)=f a;cases hf:f a<;>rfl
  unfold Xz;rw[h0];cases hf:f a with
  |none=>
   have hz:∀t,it f (t+1) a=none:=fun t=>by show(f a).bind _=none;rw[hf];rfl
   simp only[Option.elim,c9,List.any_map,Function.comp_def,hz];simp
  |some v=>
   have hs:∀t,it f (t+1+1) a=it f (t+1) v:=fun t=>by show(f a).bind _=_;rw[hf];rfl
   by_cases hv:v=b
   ·subst hv;simp only[Option.elim,if_true,c9,decide_true,Bool.true_or]
   ·have hd:decide (some v=some b)=false:=by simpa using hv
    simp only[Option.elim,if_neg hv,hd,Bool.false_or];have:=ih v (by rw[←hs];exact h);rw[List.findSome?_map,List.any_map];simp only[Function.comp_def,Nat.succ_eq_add_one,hs];rw[←List.range_succ_eq_map];exact this
theorem Kz(p:List aH)(hp:wg (nx p))(hl:p.length≤maxLen)(a b:Int):eT [.rm 3 ((mP p).map fun x=>x.fst) ((mP p).map fun x=>x.snd),.int .i64 a,.int .i64 b]=some (.bool (lv p a b (p.length+1))):=by
 have hz:((mP p).map fun x=>x.fst).zip ((mP p).map fun x=>x.snd)=mP p:=by
  generalize mP p=m;induction m with
  |nil=>rfl
  |cons x m ih=>simp only[List.map_cons,List.zip_cons_cons,ih]
 simp only[eT,qv,dO,if_true,asInt,U,hz,wk,yE];unfold lv;rw[←Ky (nx p) b p.length a (ER hp (by omega) a)];refine aX (fun t=>(PV.rm 3 ((mP p).map fun x=>x.fst) ((mP p).map fun x=>x.snd),b,(it (nx p) (t+1) a).getD 0,(it (nx p) (t+1) a).isSome,())) p.length _ (fun t ht rec=>?_) (fun rec=>?_) (by have:=aS;omega) ?_
 ·unfold jh Xz;dsimp only;rw[MM (nx p) (t+1) a];cases hv:it (nx p) (t+1) a with
  |none=>rfl
  |some v=>
   simp only[Option.isSome_some,Option.getD_some,if_true,fb,decide_eq_true_eq,Option.elim];by_cases Us:v=b
   ·rw[if_pos Us,if_pos Us];rfl
   ·rw[if_neg Us,if_neg Us];simp only[dO,if_true,hz,wk,yE,asInt,U,c9,Option.bind_some]
 ·unfold jh;dsimp only;rw[ER hp (by omega)];rfl
 ·show(_,b,(it (nx p) 1 a).getD 0,(it (nx p) 1 a).isSome,())=_;have:it (nx p) 1 a=nx p a:=by show(nx p a).bind _=_;cases nx p a<;>rfl
  rw[this]
def aC(runs:List bE)(a:Int):List aw:=((runs[a.toNat]?).map bE.calls).getD []
def eY(cs:List aw)(c:Int):Int:=((cs[c.toNat]?).map aw.stop).getD 0
def tX(x:aH)(R:Int):Bool:= !(decide (x.a≥0)&&decide (x.a<R))|| !(decide (x.b≥0)&&decide (x.b<R))||decide (x.a=x.b)
def tY(x:aH)(A B:Int):Bool:= !(decide (x.ac≥0)&&decide (x.ac<A))|| !(decide (x.bc≥0)&&decide (x.bc<B))
def pc(p:List aH)(x:aH)(A:Int):Bool:=x.stay&&(!decide (x.ac+1=A)|| !decide (x.bc=0)||(nx p x.a).isSome||decide (x.b∈jH p)||lv p x.b x.a (p.length+1))
def cD(runs:List bE)(l:List aH)(k:Nat):Int:=match l[k]? with
 |none=>0
 |some x=>if tX x runs.length=true then 9 else if tY x (aC runs x.a).length (aC runs x.b).length=true then 9 else if eY (aC runs x.a) x.ac≠eY (aC runs x.b) x.bc then 13 else if pc (l.take k) x (aC runs x.a).length=true then 19 else if cn x∈(l.map cn).take k then 6 else 0
def gT(runs:List bE)(l:List aH):Int×Int:=if l.length>1024 then(0,5)else bU (cD runs l) l.length
theorem B9(runs:List bE)(l:List aH)(k:Nat)(hk:k≤l.length)(h:∀j,j<k→cD runs l j=0):wg (nx (l.take k))∧∀x∈l.take k,0≤x.a:=by
 induction k with
 |zero=>rw[List.take_zero];exact⟨Ks,fun x hx=>by cases hx⟩
 |succ k ih=>
  have jB:k<l.length:=by omega
  obtain⟨h1,h2⟩:=ih (by omega) fun j hj=>h j (by omega);have hz:=h k (by omega);unfold cD at hz;rw[List.getElem?_eq_getElem jB]at hz;simp only at hz;have hr:tX l[k] runs.length=false:=by
   cases hr:tX l[k] runs.length with
   |false=>rfl
   |true=>rw[hr,if_pos rfl]at hz;cases hz
  have hs:pc (l.take k) l[k] (aC runs l[k].a).length=false:=by
   cases hs:pc (l.take k) l[k] (aC runs l[k].a).length with
   |false=>rfl
   |true=>
    rw[hs]at hz;split at hz
    ·cases hz
    ·split at hz
     ·cases hz
     ·split at hz
      ·cases hz
      ·rw[if_pos rfl]at hz;cases hz
  unfold tX at hr;simp only[Bool.or_eq_false_iff,Bool.not_eq_false',Bool.and_eq_true,decide_eq_true_eq,decide_eq_false_iff_not]at hr;rw[List.take_succ_eq_append_getElem jB];refine⟨G7 h1 l[k] ?_,fun x hx=>?_⟩
  ·unfold pc at hs;cases sU:l[k].stay with
   |false=>exact Or.inl rfl
   |true=>
    rw[sU,Bool.true_and]at hs;simp only[Bool.or_eq_false_iff]at hs;refine Or.inr ⟨hr.2,?_,hs.2⟩;have:=hs.1.1.2;cases hn:nx (l.take k) l[k].a with
    |none=>rfl
    |some w=>rw[hn]at this;cases this
  ·rcases List.mem_append.1 hx with hx|hx
   ·exact h2 x hx
   ·rw[List.mem_singleton]at hx;subst hx;exact hr.1.1.1
theorem xl(runs:List bE)(a:Int)(h:0≤a∧a<(runs.length:Int)):∃r∈runs,bd (runs.map bE.pv) a=some r.pv∧aC runs a=r.calls:=by
 obtain⟨n,rfl⟩:=Int.eq_ofNat_of_zero_le h.1;have hn:n<runs.length:=by omega
 refine⟨runs[n],List.getElem_mem hn,?_,?_⟩
 ·rw[az,List.getElem?_map,List.getElem?_eq_getElem hn];rfl
 ·unfold aC;rw[Int.toNat_natCast,List.getElem?_eq_getElem hn];rfl
theorem u7(cs:List aw)(c:Int)(h:0≤c∧c<(cs.length:Int)):∃r,bd (cs.map aw.pv) c=some r∧cell r 0=.int .i64 (eY cs c):=by
 obtain⟨n,rfl⟩:=Int.eq_ofNat_of_zero_le h.1;have hn:n<cs.length:=by omega
 refine⟨cs[n].pv,?_,?_⟩
 ·rw[az,List.getElem?_map,List.getElem?_eq_getElem hn];rfl
 ·unfold eY;rw[Int.toNat_natCast,List.getElem?_eq_getElem hn];rfl
end Go.Ab.Tt
namespace Go.Ab.Tt
set_option maxRecDepth 100000
set_option linter.unusedVariables false
set_option linter.unusedSimpArgs false
theorem tZ{runs:List bE}(h:∀y∈runs,y.Ok)(a:Int):(aC runs a).length≤maxLen:=by
 unfold aC;cases hr:runs[a.toNat]? with
 |none=>simp
 |some r=>exact(h r (List.mem_of_getElem? hr)).calls.1
theorem Ha(N:ah)(runs:List bE)(hr:∀y∈runs,y.Ok)(l:List aH)(hl:l.length≤maxLen)(k:Nat)(hk:k<l.length)(zZ:∀j,j<k→cD runs l j=0)(rec:TY0→Option PV):fA (l.map aH.pv,(l.length:Int),(k:Int),N.stops.map Stop.pv,N.ab.map av.pv,runs.map bE.pv,l.map aH.pv,N.paths.map Path.pv,N.ar.map aR.pv,N.aO,N.within,N.cap,0,0,0,mP (l.take k),seen pT (jH (l.take k)),seen G8 ((l.map cn).take k),()) rec=c9 (if cD runs l k=0 then none else some (some (r3 3 k (cD runs l k)))) (rec (l.map aH.pv,(l.length:Int),((k+1:Nat):Int),N.stops.map Stop.pv,N.ab.map av.pv,runs.map bE.pv,l.map aH.pv,N.paths.map Path.pv,N.ar.map aR.pv,N.aO,N.within,N.cap,0,0,0,mP (l.take (k+1)),seen pT (jH (l.take (k+1))),seen G8 ((l.map cn).take (k+1)),())):=by
 have hm:=aW;have h1:decide ((k:Int)<(l.length:Int))=true:=by simp;omega
 obtain⟨aat,_⟩:=B9 runs l k (by omega) zZ;have hlen:(l.take k).length=k:=by simp;omega
 have yF:=Kz (l.take k) aat (by omega) l[k].b l[k].a;have qq:eO (.agg [.int .i64 l[k].a,.int .i64 l[k].ac,.int .i64 l[k].b,.int .i64 l[k].bc]) (.bool true) (seen G8 ((l.map cn).take k))=_:=mN RG (cn l[k]) ((l.map cn).take k);have rn:dJ (.agg [.int .i64 l[k].a,.int .i64 l[k].ac,.int .i64 l[k].b,.int .i64 l[k].bc]) (.bool false) (seen G8 ((l.map cn).take k))=_:=kG RG (cn l[k]) ((l.map cn).take k);have aau:eO (.int .i64 l[k].b) (.bool true) (seen pT (jH (l.take k)))=_:=mN (key:=pT) xj l[k].b (jH (l.take k));have XA:dJ (.int .i64 l[k].b) (.bool false) (seen pT (jH (l.take k)))=_:=kG (key:=pT) xj l[k].b (jH (l.take k));have hsn:l.take (k+1)=l.take k++[l[k]]:=List.take_succ_eq_append_getElem hk;unfold fA;dsimp only;rw[if_pos h1,az,List.getElem?_map,List.getElem?_eq_getElem hk,hsn,Kw,Kx,oT cn l k hk];simp only[Option.map_some,U,DD,MH,link2,MI,GW,asInt,asBool,if_true,List.length_map,we,bm,fb];unfold cD;rw[List.getElem?_eq_getElem hk];simp only;have hR:(!(decide (l[k].a≥0)&&decide (l[k].a<(runs.length:Int)))|| !(decide (l[k].b≥0)&&decide (l[k].b<(runs.length:Int)))||decide (l[k].a=l[k].b))=tX l[k] runs.length:=rfl;rw[hR];cases hb:tX l[k] runs.length with
 |true=>simp only[if_true,B6,U,MK,yA,wC,Ae];rfl
 |false=>
  unfold tX at hb;simp only[Bool.or_eq_false_iff,Bool.not_eq_false',Bool.and_eq_true,decide_eq_true_eq,decide_eq_false_iff_not]at hb;obtain⟨ra,hra,hia,WJ⟩:=xl runs l[k].a ⟨hb.1.1.1,hb.1.1.2⟩;obtain⟨rb,Ip,Vl,OJ⟩:=xl runs l[k].b ⟨hb.1.2.1,hb.1.2.2⟩;have hA:=tZ hr l[k].a;rw[hia,Vl];simp only[U,EM,ae,if_true,List.length_map,←WJ,←OJ,we,asBool,bm];have hC:(!(decide (l[k].ac≥0)&&decide (l[k].ac<((aC runs l[k].a).length:Int)))|| !(decide (l[k].bc≥0)&&decide (l[k].bc<((aC runs l[k].b).length:Int))))=tY l[k] (aC runs l[k].a).length (aC runs l[k].b).length:=rfl;rw[hC];cases BX:tY l[k] (aC runs l[k].a).length (aC runs l[k].b).length with
  |true=>simp only[if_true,B6,U,MK,yA,wC,Ae];rfl
  |false=>
   unfold tY at BX;simp only[Bool.or_eq_false_iff,Bool.not_eq_false',Bool.and_eq_true,decide_eq_true_eq]at BX;obtain⟨ka,WE,hsa⟩:=u7 (aC runs l[k].a) l[k].ac BX.1;obtain⟨kb,ZX,WK⟩:=u7 (aC runs l[k].b) l[k].bc BX.2;have hw:IntKind.i64.wrap (l[k].ac+1)=l[k].ac+1:=fy (by omega) (by omega);simp only[Bool.false_eq_true,if_false,WE,ZX,U,hsa,WK,wk,yE,rn,XA,qq,aau,asInt,asBool,if_true,yF,hw,hlen,bm,dG,kF,B6,MK,yA,wC,Ae,an (show k<9223372036854775807 by omega)];have hS:(l[k].stay&&(!decide (l[k].ac+1=((aC runs l[k].a).length:Int))|| !decide (l[k].bc=0)||(nx (l.take k) l[k].a).isSome||decide (l[k].b∈jH (l.take k))||lv (l.take k) l[k].b l[k].a (k+1)))=pc (l.take k) l[k] (aC runs l[k].a).length:=by unfold pc;rw[hlen]
   rw[hS];generalize pc (l.take k) l[k] (aC runs l[k].a).length=S;by_cases sU:eY (aC runs l[k].a) l[k].ac=eY (aC runs l[k].b) l[k].bc
   ·simp only[sU,decide_true,Bool.not_true,Bool.false_eq_true,if_false,ne_eq,not_true];cases S with
    |true=>rfl
    |false=>
     by_cases bO:cn l[k]∈(l.map cn).take k
     ·simp only[bO,decide_true,if_true,Bool.false_eq_true,if_false];rfl
     ·simp only[bO,decide_false,if_true,Bool.false_eq_true,if_false];cases l[k].stay<;>rfl
   ·simp only[sU,decide_false,Bool.not_false,if_true,ne_eq,not_false_eq_true];rfl
theorem CP(N:ah)(hr:N.runs.length≤maxLen∧∀y∈N.runs,y.Ok)(hl:N.ai.length≤maxLen):cw [N.pv]=some (prt 3 (gT N.runs N.ai)):=by
 have hm:=aW;simp only[cw,ke,qI,rq,rr,ru,ry,rz,rA,rB,rC,rD,U,List.length_map];generalize Ii:N.ai=l at hl⊢;generalize qM:N.runs=runs at hr⊢;unfold gT;by_cases uV:l.length>1024
 ·rw[if_pos (by simp;omega),if_pos uV];rfl
 ·rw[if_neg (by simp;omega),if_neg uV];have hR:some (prt 3 (bU (cD runs l) l.length))=if(bU (cD runs l) l.length).2=0 then some (r3 0 0 0)else some (r3 3 (bU (cD runs l) l.length).1 (bU (cD runs l) l.length).2):=by
   unfold prt;by_cases h:(bU (cD runs l) l.length).2=0
   ·rw[if_pos h,if_pos h]
   ·rw[if_neg h,if_neg h]
  rw[hR,←hU (cD runs l) l.length (fun i e=>r3 3 i e)];refine vF (fun k=>(l.map aH.pv,(l.length:Int),(k:Int),N.stops.map Stop.pv,N.ab.map av.pv,runs.map bE.pv,l.map aH.pv,N.paths.map Path.pv,N.ar.map aR.pv,N.aO,N.within,N.cap,0,0,0,mP (l.take k),seen pT (jH (l.take k)),seen G8 ((l.map cn).take k),())) l.length _ (fun k hk zZ rec=>Ha N runs hr.2 l hl k hk (fun j hj=>?_) rec) (fun _ rec=>?_) (by have:=aS;omega) rfl
  ·have:=zZ j hj;by_cases h0:cD runs l j=0
   ·exact h0
   ·rw[if_neg h0]at this;cases this
  ·unfold fA;dsimp only;rw[if_neg (by simp)];rfl
theorem OK(N:ah)(i:Nat)(hi:i<N.ai.length)(hl:N.ai.length≤maxLen)(hp:∀x∈N.ai.take i,0≤x.a)(a b:Int)(hb:0≤b):jI [N.pv,.int .i64 i,.int .i64 a,.int .i64 b]=some (.bool (lv (N.ai.take i) a b (i+1))):=by
 have hm:=aW;simp only[jI,tI,qI,rq,rr,ru,ry,rz,rA,rB,rC,rD,U];simp only[asInt,if_true,U];generalize Ii:N.ai=l at hl hi hp⊢;have aeq:nx (l.take i) (-1)=none:=by
  cases hn:nx (l.take i) (-1)with
  |none=>rfl
  |some w=>obtain⟨x,hx,_,hxa,_⟩:=Kt hn;have:=hp x hx;omega
 have tg:∀t,(nx (l.take i) ((it (nx (l.take i)) t a).getD (-1))).getD (-1)=(it (nx (l.take i)) (t+1) a).getD (-1):=by
  intro t;rw[MM];cases it (nx (l.take i)) t a with
  |none=>simp only[Option.getD_none,Option.bind_none,aeq]
  |some v=>rfl
 have pP:∀(c:Int)(t:Nat)ff,cd.run (lx ff) ((i:Int),c,b,(t:Int),-1,0,N.stops.map Stop.pv,N.ab.map av.pv,N.runs.map bE.pv,l.map aH.pv,N.paths.map Path.pv,N.ar.map aR.pv,N.aO,N.within,N.cap,())=if(nx (l.take i) c).getD (-1)=b then some (.bool true)else ff ((i:Int),(nx (l.take i) c).getD (-1),b,IntKind.i64.wrap ((t:Int)+1),N.stops.map Stop.pv,N.ab.map av.pv,N.runs.map bE.pv,l.map aH.pv,N.paths.map Path.pv,N.ar.map aR.pv,N.aO,N.within,N.cap,()):=by
  intro c t ff;refine bL (fun k=>((i:Int),c,b,(t:Int),(nx (l.take k) c).getD (-1),(k:Int),N.stops.map Stop.pv,N.ab.map av.pv,N.runs.map bE.pv,l.map aH.pv,N.paths.map Path.pv,N.ar.map aR.pv,N.aO,N.within,N.cap,())) i (fun k hk rec=>?_) (fun rec=>?_) (by have:=aS;omega) (by rw[List.take_zero,Xx];rfl)
  ·have h1:decide ((k:Int)<(i:Int))=true:=by simp;omega
   have jB:k<l.length:=by omega
   unfold lx;dsimp only;rw[if_pos h1,az,List.getElem?_map,List.getElem?_eq_getElem jB,List.take_succ_eq_append_getElem jB,pS];simp only[Option.map_some,U,DD,link2,GW,asInt,asBool,if_true,dG,fb,an (show k<9223372036854775807 by omega)];by_cases hc:(l[k].stay&&decide (l[k].a=c))=true
   ·rw[if_pos hc,if_pos hc];rfl
   ·rw[if_neg hc,if_neg hc]
  ·unfold lx;dsimp only;rw[if_neg (by simp)];simp only[fb,decide_eq_true_eq]
 unfold lv;have l0:cd.run (ly cd) ((i:Int),a,b,0,N.stops.map Stop.pv,N.ab.map av.pv,N.runs.map bE.pv,l.map aH.pv,N.paths.map Path.pv,N.ar.map aR.pv,N.aO,N.within,N.cap,())=if((List.range (i+1)).any fun t=>decide (it (nx (l.take i)) (t+1) a=some b))=true then some (PV.bool true)else some (PV.bool false):=by
  refine oW (fun t:Nat=>((i:Int),(it (nx (l.take i)) t a).getD (-1),b,(t:Int),N.stops.map Stop.pv,N.ab.map av.pv,N.runs.map bE.pv,l.map aH.pv,N.paths.map Path.pv,N.ar.map aR.pv,N.aO,N.within,N.cap,())) (i+1) (fun t=>decide (it (nx (l.take i)) (t+1) a=some b)) (no:=some (PV.bool true)) (fin:=some (PV.bool false)) (fun t ht rec=>?_) (fun rec=>?_) (by have:=aS;omega) rfl
  ·have h1:decide ((t:Int)≤(i:Int))=true:=by simp;omega
   unfold ly;dsimp only;rw[if_pos h1,pP,tg,an (by omega)];cases hv:it (nx (l.take i)) (t+1) a with
   |none=>rw[if_neg (by simp only[Option.getD_none];omega),if_neg (by simp)]
   |some v=>
    by_cases Us:v=b
    ·rw[if_pos (by simpa using Us),if_pos (by simpa using Us)]
    ·rw[if_neg (by simpa using Us),if_neg (by simpa using Us)]
  ·unfold ly;dsimp only;rw[if_neg (by simp;omega)]
 rw[l0];cases(List.range (i+1)).any fun t=>decide (it (nx (l.take i)) (t+1) a=some b)<;>rfl
theorem OL(l:List aH)(P:aH→Bool)(k:Nat)(hk:k≤l.length):((List.range k).any fun j=>(l[j]?).elim false P)=(l.take k).any P:=by
 induction k with
 |zero=>rfl
 |succ k ih=>
  have jB:k<l.length:=by omega
  rw[List.range_succ,List.any_append,ih (by omega),List.take_succ_eq_append_getElem jB,List.any_append];simp only[List.any_cons,List.any_nil,List.getElem?_eq_getElem jB,Option.elim]
theorem RJ(N:ah)(hr:N.runs.length≤maxLen∧∀y∈N.runs,y.Ok)(hl:N.ai.length≤maxLen)(k:Nat)(hk:k<N.ai.length)(zZ:∀j,j<k→cD N.runs N.ai j=0):lz [N.pv,.int .i64 k]=some (.int .i64 (cD N.runs N.ai k)):=by
 have hm:=aW;obtain⟨_,eo⟩:=B9 N.runs N.ai k (by omega) zZ;have yF:=fun a b hb=>OK N k hk hl eo a b hb;have hE:=Ad N;simp only[lz,v7,qI,rq,rr,ru,ry,rz,rA,rB,rC,rD,U];rw[←Ad N]at yF;generalize Ii:N.ai=l at hl hk eo yF⊢;generalize qM:N.runs=runs at hr yF⊢;have hw0:IntKind.i64.wrap ((runs.length:Int)-1)=(runs.length:Int)-1:=fy (by omega) (by omega);simp only[asInt,if_true,U,az,List.getElem?_map,List.getElem?_eq_getElem hk,Option.map_some,DD,MH,link2,MI,GW,asBool,List.length_map,hw0,B3,bm,fb];unfold cD;rw[List.getElem?_eq_getElem hk];simp only;have hR:(!(decide (l[k].a≥0)&&decide (l[k].a≤(runs.length:Int)-1))|| !(decide (l[k].b≥0)&&decide (l[k].b≤(runs.length:Int)-1))||decide (l[k].a=l[k].b))=tX l[k] runs.length:=by unfold tX;rw[Bool.eq_iff_iff];simp only[Bool.or_eq_true,Bool.not_eq_true',Bool.and_eq_false_iff,decide_eq_true_eq,decide_eq_false_iff_not];omega
 rw[hR];cases hb:tX l[k] runs.length with
 |true=>simp only[if_true]
 |false=>
  unfold tX at hb;simp only[Bool.or_eq_false_iff,Bool.not_eq_false',Bool.and_eq_true,decide_eq_true_eq,decide_eq_false_iff_not]at hb;obtain⟨ra,hra,hia,WJ⟩:=xl runs l[k].a ⟨hb.1.1.1,hb.1.1.2⟩;obtain⟨rb,Ip,Vl,OJ⟩:=xl runs l[k].b ⟨hb.1.2.1,hb.1.2.2⟩;have hA:=tZ hr.2 l[k].a;have hB:=tZ hr.2 l[k].b;rw[hia,Vl];simp only[U,EM,ae,if_true,List.length_map,←WJ,←OJ];have hwA:IntKind.i64.wrap (((aC runs l[k].a).length:Int)-1)=((aC runs l[k].a).length:Int)-1:=fy (by omega) (by omega);have hwB:IntKind.i64.wrap (((aC runs l[k].b).length:Int)-1)=((aC runs l[k].b).length:Int)-1:=fy (by omega) (by omega);simp only[hwA,hwB,B3,asBool,U,bm];have hC:(!(decide (l[k].ac≥0)&&decide (l[k].ac≤((aC runs l[k].a).length:Int)-1))|| !(decide (l[k].bc≥0)&&decide (l[k].bc≤((aC runs l[k].b).length:Int)-1)))=tY l[k] (aC runs l[k].a).length (aC runs l[k].b).length:=by unfold tY;rw[Bool.eq_iff_iff];simp only[Bool.or_eq_true,Bool.not_eq_true',Bool.and_eq_false_iff,decide_eq_true_eq,decide_eq_false_iff_not];omega
  rw[hC];cases BX:tY l[k] (aC runs l[k].a).length (aC runs l[k].b).length with
  |true=>simp only[if_true,Bool.false_eq_true,if_false]
  |false=>
   unfold tY at BX;simp only[Bool.or_eq_false_iff,Bool.not_eq_false',Bool.and_eq_true,decide_eq_true_eq]at BX;obtain⟨ka,WE,hsa⟩:=u7 (aC runs l[k].a) l[k].ac BX.1;obtain⟨kb,ZX,WK⟩:=u7 (aC runs l[k].b) l[k].bc BX.2;simp only[Bool.false_eq_true,if_false,WE,ZX,U,hsa,WK,asInt,asBool,if_true,bm,dG,kF];by_cases sU:eY (aC runs l[k].a) l[k].ac=eY (aC runs l[k].b) l[k].bc
   ·simp only[sU,decide_true,Bool.not_true,Bool.false_eq_true,if_false,ne_eq,not_true];have aav:cd.run mA ((k:Int),0,N.stops.map Stop.pv,N.ab.map av.pv,runs.map bE.pv,l.map aH.pv,N.paths.map Path.pv,N.ar.map aR.pv,N.aO,N.within,N.cap,.int .i64 l[k].a,.int .i64 l[k].ac,.int .i64 l[k].b,.int .i64 l[k].bc,.bool l[k].stay,())=if cn l[k]∈(l.map cn).take k then some (.int .i64 6)else some (.int .i64 0):=by
     refine(oW (fun j=>((k:Int),(j:Int),N.stops.map Stop.pv,N.ab.map av.pv,runs.map bE.pv,l.map aH.pv,N.paths.map Path.pv,N.ar.map aR.pv,N.aO,N.within,N.cap,PV.int .i64 l[k].a,PV.int .i64 l[k].ac,PV.int .i64 l[k].b,PV.int .i64 l[k].bc,PV.bool l[k].stay,())) k (fun j=>decide ((l.map cn)[j]?=some (cn l[k]))) (no:=some (.int .i64 6)) (fin:=some (.int .i64 0)) (fun j hj rec=>?_) (fun rec=>?_) (by have:=aS;omega) rfl).trans ?_
     ·have h1:decide ((j:Int)<(k:Int))=true:=by simp;omega
      have FN:j<l.length:=by omega
      have hd:decide ((l.map cn)[j]?=some (cn l[k]))=(decide (l[j].a=l[k].a)&&decide (l[j].ac=l[k].ac)&&decide (l[j].b=l[k].b)&&decide (l[j].bc=l[k].bc)):=by rw[Bool.eq_iff_iff];simp[List.getElem?_eq_getElem FN,cn,and_assoc]
      rw[hd];unfold mA;dsimp only;rw[if_pos h1,az,List.getElem?_map,List.getElem?_eq_getElem FN];simp only[Option.map_some,U,DD,MH,link2,MI,asInt,if_true,an (show j<9223372036854775807 by omega),fb,dG]
     ·unfold mA;dsimp only;rw[if_neg (by simp)]
     ·rw[Au _ _ (by simp;omega)];simp only[decide_eq_true_eq]
    have aer:cd.run (mB cd) ((k:Int),0,N.stops.map Stop.pv,N.ab.map av.pv,runs.map bE.pv,l.map aH.pv,N.paths.map Path.pv,N.ar.map aR.pv,N.aO,N.within,N.cap,.int .i64 l[k].a,.int .i64 l[k].ac,.int .i64 l[k].b,.int .i64 l[k].bc,.bool l[k].stay,())=if(l[k].stay&&((nx (l.take k) l[k].a).isSome||decide (l[k].b∈jH (l.take k))))=true then some (.int .i64 19)else if(l[k].stay&&lv (l.take k) l[k].b l[k].a (k+1))=true then some (.int .i64 19)else if cn l[k]∈(l.map cn).take k then some (.int .i64 6)else some (.int .i64 0):=by
     refine(oW (fun j=>((k:Int),(j:Int),N.stops.map Stop.pv,N.ab.map av.pv,runs.map bE.pv,l.map aH.pv,N.paths.map Path.pv,N.ar.map aR.pv,N.aO,N.within,N.cap,PV.int .i64 l[k].a,PV.int .i64 l[k].ac,PV.int .i64 l[k].b,PV.int .i64 l[k].bc,PV.bool l[k].stay,())) k (fun j=>(l[j]?).elim false fun y=>l[k].stay&&y.stay&&(decide (y.a=l[k].a)||decide (y.b=l[k].b))) (no:=some (.int .i64 19)) (fin:=if(l[k].stay&&lv (l.take k) l[k].b l[k].a (k+1))=true then some (.int .i64 19)else if cn l[k]∈(l.map cn).take k then some (.int .i64 6)else some (.int .i64 0)) (fun j hj rec=>?_) (fun rec=>?_) (by have:=aS;omega) rfl).trans ?_
     ·have h1:decide ((j:Int)<(k:Int))=true:=by simp;omega
      have FN:j<l.length:=by omega
      rw[List.getElem?_eq_getElem FN];unfold mB;dsimp only;rw[if_pos h1,az,List.getElem?_map,List.getElem?_eq_getElem FN];simp only[Option.map_some,U,DD,link2,GW,asInt,asBool,if_true,an (show j<9223372036854775807 by omega),fb,dG,bm,Option.elim];rfl
     ·unfold mB;dsimp only;rw[if_neg (by simp),aav];have:=yF l[k].b l[k].a (by have:=hb.1.1.1;omega);simp only[asBool,asInt,if_true,U,this,dG]
     ·rw[OL l _ k (by omega)];have W9:((l.take k).any fun y=>l[k].stay&&y.stay&&(decide (y.a=l[k].a)||decide (y.b=l[k].b)))=(l[k].stay&&((nx (l.take k) l[k].a).isSome||decide (l[k].b∈jH (l.take k)))):=by
       rw[OI,RI];cases l[k].stay with
       |false=>simp
       |true=>
        rw[Bool.eq_iff_iff];simp only[Bool.true_and,Bool.or_eq_true,List.any_eq_true,Bool.and_eq_true,decide_eq_true_eq];constructor
        ·rintro⟨x,h1,h2,h3|h3⟩
         ·exact Or.inl ⟨x,h1,h2,h3⟩
         ·exact Or.inr ⟨x,h1,h2,h3⟩
        ·rintro(⟨x,h1,h2,h3⟩|⟨x,h1,h2,h3⟩)
         ·exact⟨x,h1,h2,Or.inl h3⟩
         ·exact⟨x,h1,h2,Or.inr h3⟩
      rw[W9]
    rw[aer];have hlen:(l.take k).length=k:=by simp;omega
    have hac:decide (l[k].ac=((aC runs l[k].a).length:Int)-1)=decide (l[k].ac+1=((aC runs l[k].a).length:Int)):=by rw[Bool.eq_iff_iff];simp only[decide_eq_true_eq];omega
    rw[hac];unfold pc;rw[hlen];generalize (!decide (l[k].ac+1=((aC runs l[k].a).length:Int)))=X1;generalize (!decide (l[k].bc=0))=X2;generalize (nx (l.take k) l[k].a).isSome=X3;generalize decide (l[k].b∈jH (l.take k))=X4;generalize lv (l.take k) l[k].b l[k].a (k+1)=X5;by_cases bO:cn l[k]∈(l.map cn).take k
    ·simp only[bO,if_true];cases l[k].stay<;>cases X1<;>cases X2<;>cases X3<;>cases X4<;>cases X5<;>rfl
    ·simp only[bO,if_false];cases l[k].stay<;>cases X1<;>cases X2<;>cases X3<;>cases X4<;>cases X5<;>rfl
   ·simp only[sU,decide_false,Bool.not_false,if_true,ne_eq,not_false_eq_true,Bool.false_eq_true,if_false]
end Go.Ab.Tt
namespace Go.Ab.Tt
set_option maxRecDepth 100000
set_option linter.unusedVariables false
set_option linter.unusedSimpArgs false
def eU(N:ah):Int×Int×Int:=
 if(gM N.stops).2=0 then
  if(gm N.ab).2=0 then
   if(ga N.runs N.stops.length N.ab.length).2=0 then
    if(gT N.runs N.ai).2=0 then
     if(cW N.paths N.stops.length).2=0 then if(ei N.ar N.aO N.within N.cap).2=0 then(0,0,0)else(5,ei N.ar N.aO N.within N.cap)
     else(4,cW N.paths N.stops.length)
    else(3,gT N.runs N.ai)
   else(2,ga N.runs N.stops.length N.ab.length)
  else(1,gm N.ab)
 else(0,gM N.stops)
def fW(x:Int×Int×Int):PV:=.bl [.int .i64 x.1,.int .i64 x.2.1,.int .i64 x.2.2]
theorem r3E(p i e:Int):PV.agg [cell (r3 p i e) 0,cell (r3 p i e) 1,cell (r3 p i e) 2]=r3 p i e:=rfl
theorem VL(p i e:Int):PV.agg [.int .i64 p,.int .i64 i,.int .i64 e]=r3 p i e:=rfl
theorem ua(p i e q j f:Int):cL [.rs 3 [r3 p i e,r3 q j f]]=some (if e=0 then(if f=0 then r3 0 0 0 else r3 q j f)else r3 p i e):=by
 simp only[cL,qD,ae,if_true,U];have h0:=aX (body:=gn) (fun k=>([r3 p i e,r3 q j f],(2:Int),(k:Int),0,0,0,())) 2 (fun k=>if k=0 then(if e=0 then none else some (some (r3 p i e)))else(if f=0 then none else some (some (r3 q j f)))) (fin:=some (r3 0 0 0)) (fun k hk rec=>?_) (fun rec=>?_) (by decide) (s0:=([r3 p i e,r3 q j f],(2:Int),0,0,0,0,())) rfl
 ·refine h0.trans ?_;have:List.range 2=[0,1]:=rfl;rw[this];by_cases he:e=0
  ·by_cases hf:f=0<;>simp[he,hf,c9]
  ·simp[he,c9]
 ·have h2:k=0∨k=1:=by omega
  rcases h2 with rfl|rfl
  ·unfold gn;dsimp only;rw[if_pos (by simp),az];simp only[List.getElem?_cons_zero,U,Ae,asInt,if_true,kF,r3E,an (show 0<9223372036854775807 by omega)];by_cases he:e=0
   ·simp only[he,decide_true,Bool.not_true,Bool.false_eq_true,if_false,if_true];rfl
   ·simp only[he,decide_false,Bool.not_false,if_false,if_true];rfl
  ·unfold gn;dsimp only;rw[if_pos (by simp),az];simp only[List.getElem?_cons_succ,List.getElem?_cons_zero,U,Ae,asInt,if_true,kF,r3E,an (show 1<9223372036854775807 by omega)];by_cases he:f=0
   ·simp only[he,decide_true,Bool.not_true,Bool.false_eq_true,if_false,if_true];rfl
   ·simp only[he,decide_false,Bool.not_false,if_false,if_true];rfl
 ·unfold gn;dsimp only;rw[if_neg (by simp)];rfl
theorem KA(p:Int)(x:Int×Int):prt p x=if x.2=0 then r3 0 0 0 else r3 p x.1 x.2:=rfl
theorem yG{l:List Stop}(h:(gM l).2=0):l.length≤64:=by
 unfold gM at h;by_cases uV:l.length>64
 ·rw[if_pos uV]at h;cases h
 ·omega
theorem zF(a b:Int):(a==b)=decide (a=b):=fb a b
theorem Ca(N:ah)(h:N.Ok)(hp:N.paths.length≤4096):dX [N.pv]=some (fW (eU N)):=by
 have hs:=Ow N.stops h.stops;have hr:=Kj N.ab h.ab;have hu:=EP N h.runs;have hl:=CP N h.runs h.ai.1;have hf:=Km N.ar N.aO N.within N.cap h.ar;unfold uY at hf;simp only[dX,qx,qI,rq,rr,ru,ry,rz,rA,rB,rC,rD,U,Ad];simp only[hs,hr,hf,hu,hl,U,res,ca,List.length_cons,List.length_nil,Nat.reduceAdd,if_true,List.getD_cons_zero,List.getD_cons_succ,B6,MK,VL,ua];unfold eU;by_cases h1:(gM N.stops).2=0
 ·have YO:=CN N (yG h1) hp;simp only[YO,U,h1,if_true];by_cases h2:(gm N.ab).2=0
  ·simp only[h2,if_true];rw[KA 2,KA 3,KA 4];by_cases h3:(ga N.runs N.stops.length N.ab.length).2=0
   ·simp only[h3,if_true];by_cases h4:(gT N.runs N.ai).2=0
    ·simp only[h4,if_true];by_cases h5:(cW N.paths N.stops.length).2=0
     ·simp only[h5,if_true];by_cases h6:(ei N.ar N.aO N.within N.cap).2=0
      ·simp only[h6,if_true,MK,VL,yA,wC,Ae,asInt,U,ua,zF,decide_true,decide_false,Bool.false_eq_true,fW]
      ·simp only[h6,if_true,if_false,MK,VL,yA,wC,Ae,asInt,U,ua,zF,decide_true,decide_false,Bool.false_eq_true,fW]
     ·simp only[h5,if_true,if_false,MK,VL,yA,wC,Ae,asInt,U,ua,zF,decide_true,decide_false,Bool.false_eq_true,fW]
    ·simp only[h4,if_true,if_false,MK,VL,yA,wC,Ae,asInt,U,ua,zF,decide_true,decide_false,Bool.false_eq_true,fW]
   ·simp only[h3,if_true,if_false,MK,VL,yA,wC,Ae,asInt,U,ua,zF,decide_true,decide_false,Bool.false_eq_true,fW]
  ·simp only[h2,if_true,if_false,MK,VL,yA,wC,Ae,asInt,U,ua,zF,decide_true,decide_false,Bool.false_eq_true,fW]
 ·simp only[h1,if_true,if_false,MK,VL,yA,wC,Ae,asInt,U,ua,zF,decide_true,decide_false,Bool.false_eq_true,fW]
theorem ET(N:ah)(h:N.Ok)(hn:N.stops.length≤64)(hp:N.paths.length≤4096):cd.run lA (0,N.stops.map Stop.pv,N.ab.map av.pv,N.runs.map bE.pv,N.ai.map aH.pv,N.paths.map Path.pv,N.ar.map aR.pv,N.aO,N.within,N.cap,())=some (fW (if(bU (cD N.runs N.ai) N.ai.length).2=0 then
  if(cW N.paths N.stops.length).2=0 then if(ei N.ar N.aO N.within N.cap).2=0 then(0,0,0)else(5,ei N.ar N.aO N.within N.cap)
  else(4,cW N.paths N.stops.length)
 else(3,bU (cD N.runs N.ai) N.ai.length))):=by
 have hm:=aW
 have Qy:=h.ai.1
 have YO:=OG N hn hp
 have hf:=Oy N.ar N.aO N.within N.cap h.ar
 unfold uY at hf
 have hg:=hU (cD N.runs N.ai) N.ai.length (fun i e=>fW (3,i,e)) (some (fW (if(cW N.paths N.stops.length).2=0 then if(ei N.ar N.aO N.within N.cap).2=0 then(0,0,0)else(5,ei N.ar N.aO N.within N.cap)else(4,cW N.paths N.stops.length))))
 have hR:(if(bU (cD N.runs N.ai) N.ai.length).2=0 then(some (fW (if(cW N.paths N.stops.length).2=0 then if(ei N.ar N.aO N.within N.cap).2=0 then(0,0,0)else(5,ei N.ar N.aO N.within N.cap)else(4,cW N.paths N.stops.length))))else some (fW (3,(bU (cD N.runs N.ai) N.ai.length).1,(bU (cD N.runs N.ai) N.ai.length).2)))=some (fW (if(bU (cD N.runs N.ai) N.ai.length).2=0 then
   if(cW N.paths N.stops.length).2=0 then if(ei N.ar N.aO N.within N.cap).2=0 then(0,0,0)else(5,ei N.ar N.aO N.within N.cap)
   else(4,cW N.paths N.stops.length)
  else(3,bU (cD N.runs N.ai) N.ai.length))):=by
  by_cases hz:(bU (cD N.runs N.ai) N.ai.length).2=0
  ·rw[if_pos hz,if_pos hz]
  ·rw[if_neg hz,if_neg hz]
 rw[←hR,←hg]
 refine vF (fun k=>((k:Int),N.stops.map Stop.pv,N.ab.map av.pv,N.runs.map bE.pv,N.ai.map aH.pv,N.paths.map Path.pv,N.ar.map aR.pv,N.aO,N.within,N.cap,())) N.ai.length _ (fun k hk zZ rec=>?_) (fun _ rec=>?_) (by have:=aS;omega) rfl
 ·have aaw:∀j,j<k→cD N.runs N.ai j=0:=fun j hj=>by
   have:=zZ j hj;by_cases h0:cD N.runs N.ai j=0
   ·exact h0
   ·rw[if_neg h0]at this;cases this
  have T8:=RJ N h.runs Qy k hk aaw;have h1:decide ((k:Int)<((N.ai.map aH.pv).length:Int))=true:=by simp;omega
  unfold lA;dsimp only;rw[if_pos h1,Ad,T8];simp only[U,asInt,if_true,kF,an (show k<9223372036854775807 by omega)];by_cases he:cD N.runs N.ai k=0
  ·simp only[he,decide_true,Bool.not_true,Bool.false_eq_true,if_false,if_true];rfl
  ·simp only[he,decide_false,Bool.not_false,if_false,if_true];rfl
 ·unfold lA;dsimp only;rw[if_neg (by simp),Ad,YO];simp only[U,res,ca,List.length_cons,List.length_nil,Nat.reduceAdd,if_true,List.getD_cons_zero,List.getD_cons_succ,asInt,kF,hf];by_cases h5:(cW N.paths N.stops.length).2=0
  ·simp only[h5,decide_true,Bool.not_true,Bool.false_eq_true,if_false,if_true];by_cases h6:(ei N.ar N.aO N.within N.cap).2=0
   ·simp only[h6,decide_true,Bool.not_true,Bool.false_eq_true,if_false,if_true,fW]
   ·simp only[h6,decide_false,Bool.not_false,Bool.false_eq_true,if_false,if_true,fW]
  ·simp only[h5,decide_false,Bool.not_false,Bool.false_eq_true,if_false,if_true,fW]
theorem OM(N:ah)(h:N.Ok)(hp:N.paths.length≤4096):jJ [N.pv]=some (fW (eU N)):=by
 have hm:=aW;have cO:4096≤maxLen:=by decide
 have hs:=Ox N.stops h.stops;have hr:=Kk N.ab h.ab;simp only[jJ,tM,qI,rq,rr,ru,ry,rz,rA,rB,rC,rD,U];simp only[hs,hr,U,res,ca,List.length_cons,List.length_nil,Nat.reduceAdd,if_true,List.getD_cons_zero,List.getD_cons_succ,asInt,kF];unfold eU;by_cases h1:(gM N.stops).2=0
 ·have sF:=ET N h (yG h1) hp;simp only[h1,decide_true,Bool.not_true,Bool.false_eq_true,if_false,if_true];by_cases h2:(gm N.ab).2=0
  ·simp only[h2,decide_true,Bool.not_true,Bool.false_eq_true,if_false,if_true];unfold ga;by_cases uV:N.runs.length>1024
   ·rw[if_pos (by simp;omega),if_pos uV];rfl
   ·rw[if_neg (by simp;omega),if_neg uV];generalize hE:iW N.runs N.stops.length N.ab.length=E;generalize hF:(if(gT N.runs N.ai).2=0 then
     if(cW N.paths N.stops.length).2=0 then if(ei N.ar N.aO N.within N.cap).2=0 then((0:Int),(0:Int),(0:Int))else(5,ei N.ar N.aO N.within N.cap)
     else(4,cW N.paths N.stops.length)
    else(3,gT N.runs N.ai))=F
    have hg:=hU E N.runs.length (fun i e=>fW (2,i,e)) (some (fW F));have hR:(if(bU E N.runs.length).2=0 then some (fW F)else some (fW (2,(bU E N.runs.length).1,(bU E N.runs.length).2)))=some (fW (if(bU E N.runs.length).2=0 then F else(2,bU E N.runs.length))):=by
     by_cases hz:(bU E N.runs.length).2=0
     ·rw[if_pos hz,if_pos hz]
     ·rw[if_neg hz,if_neg hz]
    rw[←hR,←hg];refine aX (fun k=>((k:Int),N.stops.map Stop.pv,N.ab.map av.pv,N.runs.map bE.pv,N.ai.map aH.pv,N.paths.map Path.pv,N.ar.map aR.pv,N.aO,N.within,N.cap,())) N.runs.length _ (fun k hk rec=>?_) (fun rec=>?_) (by have:=aS;omega) rfl
    ·have zT:=Uq N h.runs k hk;rw[hE]at zT;have h1:decide ((k:Int)<((N.runs.map bE.pv).length:Int))=true:=by simp;omega
     unfold pd;dsimp only;rw[if_pos h1,Ad,zT];simp only[U,asInt,if_true,kF,an (show k<9223372036854775807 by omega)];by_cases he:E k=0
     ·simp only[he,decide_true,Bool.not_true,Bool.false_eq_true,if_false,if_true];rfl
     ·simp only[he,decide_false,Bool.not_false,if_false,if_true];rfl
    ·unfold pd;dsimp only;rw[if_neg (by simp),←hF];unfold gT;by_cases FL:N.ai.length>1024
     ·rw[if_pos (by simp;omega),if_pos FL];rfl
     ·rw[if_neg (by simp;omega),if_neg FL,sF]
  ·simp only[h2,decide_false,Bool.not_false,Bool.false_eq_true,if_false,if_true,fW]
 ·simp only[h1,decide_false,Bool.not_false,Bool.false_eq_true,if_false,if_true,fW]
end Go.Ab.Tt
namespace Go.Ab.Tt
set_option maxRecDepth 100000
set_option linter.unusedVariables false
set_option linter.unusedSimpArgs false
theorem KB{N:ah}(h:(eU N).2.2=0):∀k,k<N.runs.length→iW N.runs N.stops.length N.ab.length k=0:=by
 unfold eU at h;by_cases h1:(gM N.stops).2=0
 ·rw[if_pos h1]at h;by_cases h2:(gm N.ab).2=0
  ·rw[if_pos h2]at h;by_cases h3:(ga N.runs N.stops.length N.ab.length).2=0
   ·unfold ga at h3;by_cases uV:N.runs.length>1024
    ·rw[if_pos uV]at h3;cases h3
    ·rw[if_neg uV]at h3;exact(mc _ _).1 h3
   ·rw[if_neg h3]at h;exact absurd h h3
  ·rw[if_neg h2]at h;exact absurd h h2
 ·rw[if_neg h1]at h;exact absurd h h1
theorem ub{N:ah}(h:(eU N).2.2=0):∀r∈N.runs,(bw r.calls N.stops.length 0 3155932800).2=0:=by
 intro r hr;obtain⟨k,hk,rfl⟩:=List.getElem_of_mem hr;have:=KB h k hk;unfold iW at this;rw[List.getElem?_eq_getElem hk]at this;simp only at this;by_cases hc:(bw N.runs[k].calls N.stops.length 0 3155932800).2=0
 ·exact hc
 ·rw[if_neg hc]at this;split at this
  ·cases this
  ·split at this
   ·cases this
   ·split at this
    ·cases this
    ·split at this
     ·cases this
     ·exact absurd this hc
theorem uc{l:List aw}{n a b:Int}(h:(bw l n a b).2=0):2≤l.length∧l.length≤32:=by
 unfold bw at h;by_cases hc:(decide ((l.length:Int)<2)||decide ((l.length:Int)>32))=true
 ·rw[if_pos hc]at h;cases h
 ·simp only[Bool.or_eq_true,decide_eq_true_eq,not_or]at hc;omega
theorem zG{l:List aw}{n a b:Int}(h:(bw l n a b).2=0):∀k,k<l.length→my l n a b k=0:=by
 unfold bw at h;by_cases hc:(decide ((l.length:Int)<2)||decide ((l.length:Int)>32))=true
 ·rw[if_pos hc]at h;cases h
 ·rw[if_neg hc]at h;exact(mc _ _).1 h
theorem pe{c:aw}{p:Option aw}{n a b:Int}(h:ll c p n a b=0):c.arr≤c.dep∧a≤c.arr∧c.dep≤b∧∀q,p=some q→q.dep≤c.arr:=by
 unfold ll at h;cases p with
 |none=>
  dsimp only at h;by_cases hA:(decide (c.stop<0)||decide (c.stop≥n))=true
  ·rw[if_pos hA]at h;cases h
  ·rw[if_neg hA,if_neg (by simp)]at h;by_cases hC:(decide (c.arr<a)||decide (c.arr>c.dep)||decide (c.dep>b)||false)=true
   ·rw[if_pos hC]at h;cases h
   ·simp only[Bool.or_eq_true,decide_eq_true_eq,not_or]at hC;exact⟨by omega,by omega,by omega,fun q hq=>by cases hq⟩
 |some r=>
  dsimp only at h;by_cases hA:(decide (c.stop<0)||decide (c.stop≥n))=true
  ·rw[if_pos hA]at h;cases h
  ·rw[if_neg hA]at h;by_cases hB:decide (r.stop=c.stop)=true
   ·rw[if_pos hB]at h;cases h
   ·rw[if_neg hB]at h;by_cases hC:(decide (c.arr<a)||decide (c.arr>c.dep)||decide (c.dep>b)||decide (c.arr<r.dep))=true
    ·rw[if_pos hC]at h;cases h
    ·simp only[Bool.or_eq_true,decide_eq_true_eq,not_or]at hC;exact⟨by omega,by omega,by omega,fun q hq=>by cases hq;omega⟩
end Go.Ab.Tt
namespace Go.Ab.Tt
set_option maxRecDepth 100000
set_option linter.unusedVariables false
set_option linter.unusedSimpArgs false
theorem Stop.peq(x y:Stop):cB [cell x.pv 0,cell x.pv 1,cell x.pv 2,cell x.pv 3] [cell y.pv 0,cell y.pv 1,cell y.pv 2,cell y.pv 3]=decide (x=y):=by cases x;cases y;rw[Bool.eq_iff_iff];simp[cell,Stop.pv,PV.cells,cB,Ab.peq]
theorem av.peq(x y:av):cB [cell x.pv 0,cell x.pv 1,cell x.pv 2] [cell y.pv 0,cell y.pv 1,cell y.pv 2]=decide (x=y):=by cases x;cases y;rw[Bool.eq_iff_iff];simp[cell,av.pv,PV.cells,cB,Ab.peq]
theorem aw.peq(x y:aw):cB [cell x.pv 0,cell x.pv 1,cell x.pv 2,cell x.pv 3,cell x.pv 4] [cell y.pv 0,cell y.pv 1,cell y.pv 2,cell y.pv 3,cell y.pv 4]=decide (x=y):=by cases x;cases y;rw[Bool.eq_iff_iff];simp[cell,aw.pv,PV.cells,cB,Ab.peq]
theorem aH.peq(x y:aH):cB [cell x.pv 0,cell x.pv 1,cell x.pv 2,cell x.pv 3,cell x.pv 4] [cell y.pv 0,cell y.pv 1,cell y.pv 2,cell y.pv 3,cell y.pv 4]=decide (x=y):=by cases x;cases y;rw[Bool.eq_iff_iff];simp[cell,aH.pv,PV.cells,cB,Ab.peq]
theorem Path.peq(x y:Path):cB [cell x.pv 0,cell x.pv 1,cell x.pv 2,cell x.pv 3] [cell y.pv 0,cell y.pv 1,cell y.pv 2,cell y.pv 3]=decide (x=y):=by cases x;cases y;rw[Bool.eq_iff_iff];simp[cell,Path.pv,PV.cells,cB,Ab.peq]
theorem aR.peq(x y:aR):cB [cell x.pv 0,cell x.pv 1,cell x.pv 2,cell x.pv 3,cell x.pv 4,cell x.pv 5] [cell y.pv 0,cell y.pv 1,cell y.pv 2,cell y.pv 3,cell y.pv 4,cell y.pv 5]=decide (x=y):=by cases x;cases y;rw[Bool.eq_iff_iff];simp[cell,aR.pv,PV.cells,cB,Ab.peq]
theorem pU{a b:Nat}:((a:Int) !=(b:Int))= !decide (a=b):=by rw[Bool.eq_iff_iff];simp;omega
theorem EU{c:Prop}[Decidable c]:(if c then some (PV.bool true)else some (PV.bool false))=some (PV.bool (decide c)):=by by_cases h:c<;>simp[h]
theorem pC(a b:List aw)(ha:a.length≤maxLen):cj [.rs 5 (a.map aw.pv),.rs 5 (b.map aw.pv)]=some (.bool (decide (a=b))):=by
 have hm:=aW;simp only[cj,gK,ae,if_true,U,List.length_map];by_cases h:a.length=b.length
 ·rw[if_neg (by rw[pU];simp[h])];refine(aX (fun k=>(a.map aw.pv,b.map aw.pv,(a.length:Int),(k:Int),())) a.length (fun k=>if a[k]?=b[k]? then none else some (some (PV.bool false))) (fun k hk rec=>?_) (fin:=some (PV.bool true)) (fun rec=>?_) (by have:=aS;omega) rfl).trans ?_
  ·have h1:decide ((k:Int)<(a.length:Int))=true:=by simp;omega
   have jB:k<b.length:=by omega
   unfold fC;dsimp only;try rw[List.length_map]
   rw[if_pos h1,az,az,List.getElem?_map,List.getElem?_map,List.getElem?_eq_getElem hk,List.getElem?_eq_getElem jB];simp only[Option.map_some,U];rw[if_pos ⟨rfl,rfl⟩,aw.peq,an (by omega)];by_cases he:a[k]=b[k]
   ·simp[he,c9]
   ·simp[he,c9]
  ·unfold fC;dsimp only;rw[if_neg (by simp)]
  ·exact(mz a b h (some (PV.bool false)) (some (PV.bool true))).trans EU
 ·rw[if_pos (by rw[pU];simp[h])];have:a≠b:=fun e=>h (by rw[e]);simp[this]
theorem EV(a b:List aw)(ha:a.length≤maxLen):fM [.rs 5 (a.map aw.pv),.rs 5 (b.map aw.pv)]=some (.bool (decide (a=b))):=by
 have hm:=aW;simp only[fM,nj,ae,if_true,U,List.length_map];by_cases h:a.length=b.length
 ·rw[if_neg (by rw[pU];simp[h])];refine(aX (fun k=>(a.map aw.pv,b.map aw.pv,(k:Int),())) a.length (fun k=>if a[k]?=b[k]? then none else some (some (PV.bool false))) (fun k hk rec=>?_) (fin:=some (PV.bool true)) (fun rec=>?_) (by have:=aS;omega) rfl).trans ?_
  ·have h1:decide ((k:Int)<(a.length:Int))=true:=by simp;omega
   have jB:k<b.length:=by omega
   unfold kj;dsimp only;try rw[List.length_map]
   rw[if_pos h1,az,az,List.getElem?_map,List.getElem?_map,List.getElem?_eq_getElem hk,List.getElem?_eq_getElem jB];simp only[Option.map_some,U];rw[if_pos ⟨rfl,rfl⟩,aw.peq,an (by omega)];by_cases he:a[k]=b[k]
   ·simp[he,c9]
   ·simp[he,c9]
  ·unfold kj;dsimp only;rw[if_neg (by simp)]
  ·exact(mz a b h (some (PV.bool false)) (some (PV.bool true))).trans EU
 ·rw[if_pos (by rw[pU];simp[h])];have:a≠b:=fun e=>h (by rw[e]);simp[this]
def ud(l:List aR)(d w c:Int):PV:=.agg [.rs 6 (l.map aR.pv),.int .i64 d,.int .i64 w,.int .i64 c]
theorem nH(a b:List aR)(d1 w1 c1 d2 w2 c2:Int)(ha:a.length≤maxLen):fN [ud a d1 w1 c1,ud b d2 w2 c2]=some (.bool (decide (d1=d2)&&decide (w1=w2)&&decide (c1=c2)&&decide (a=b))):=by
 have hm:=aW;have f0:∀l d w c,asAgg 4 (ud l d w c)=some ():=fun _ _ _ _=>rfl;have f1:∀l d w c,cell (ud l d w c) 0=.rs 6 (l.map aR.pv):=fun _ _ _ _=>rfl;have f2:∀l d w c,cell (ud l d w c) 1=.int .i64 d:=fun _ _ _ _=>rfl;have f3:∀l d w c,cell (ud l d w c) 2=.int .i64 w:=fun _ _ _ _=>rfl;have f4:∀l d w c,cell (ud l d w c) 3=.int .i64 c:=fun _ _ _ _=>rfl;simp only[fN,nk,f0,f1,f2,f3,f4,ae,asInt,if_true,U,List.length_map,pU,kF,bm];by_cases h:a.length=b.length
 ·by_cases e1:d1=d2
  ·by_cases e2:w1=w2
   ·by_cases e3:c1=c2
    ·rw[if_neg (by simp[h,e1,e2,e3])];simp only[e1,e2,e3,decide_true,Bool.true_and];refine(aX (fun k=>((k:Int),a.map aR.pv,d2,w2,c2,b.map aR.pv,d2,w2,c2,())) a.length (fun k=>if a[k]?=b[k]? then none else some (some (PV.bool false))) (fun k hk rec=>?_) (fin:=some (PV.bool true)) (fun rec=>?_) (by have:=aS;omega) rfl).trans ?_
     ·have h1:decide ((k:Int)<(a.length:Int))=true:=by simp;omega
      have jB:k<b.length:=by omega
      unfold kn;dsimp only;try rw[List.length_map]
      rw[if_pos h1,az,az,List.getElem?_map,List.getElem?_map,List.getElem?_eq_getElem hk,List.getElem?_eq_getElem jB];simp only[Option.map_some,U];rw[if_pos ⟨rfl,rfl⟩,aR.peq,an (by omega)];by_cases he:a[k]=b[k]
      ·simp[he,c9]
      ·simp[he,c9]
     ·unfold kn;dsimp only;rw[if_neg (by simp)]
     ·exact(mz a b h (some (PV.bool false)) (some (PV.bool true))).trans EU
    ·rw[if_pos (by simp[e3])];simp[e3]
   ·rw[if_pos (by simp[e2])];simp[e2]
  ·rw[if_pos (by simp[e1])];simp[e1]
 ·rw[if_pos (by
   have h':¬((a.length:Int)=(b.length:Int)):=by omega
   simp[h'])]
  have:a≠b:=fun e=>h (by rw[e]);simp[this]
theorem MP(x y:bE):decide (x=y)=(decide (x.dv=y.dv)&&decide (x.day=y.day)&&decide (x.inst=y.inst)&&decide (x.id=y.id)&&decide (x.bj=y.bj)&&decide (x.free=y.free)&&decide (x.qH=y.qH)&&decide (x.calls=y.calls)):=by cases x;cases y;rw[Bool.eq_iff_iff];simp[and_assoc]
theorem pV(a b:List bE)(ha:a.length≤maxLen)(hc:∀x∈a,x.calls.length≤maxLen):gp [.rs 8 (a.map bE.pv),.rs 8 (b.map bE.pv)]=some (.bool (decide (a=b))):=by
 have hm:=aW;simp only[gp,oN,ae,if_true,U,List.length_map];by_cases h:a.length=b.length
 ·rw[if_neg (by rw[pU];simp[h])];refine(aX (fun k=>(a.map bE.pv,b.map bE.pv,(k:Int),())) a.length (fun k=>if a[k]?=b[k]? then none else some (some (PV.bool false))) (fun k hk rec=>?_) (fin:=some (PV.bool true)) (fun rec=>?_) (by have:=aS;omega) rfl).trans ?_
  ·have h1:decide ((k:Int)<(a.length:Int))=true:=by simp;omega
   have jB:k<b.length:=by omega
   have gy:=EV a[k].calls b[k].calls (hc _ (List.getElem_mem hk));unfold lB;dsimp only;rw[List.length_map,if_pos h1,az,az,List.getElem?_map,List.getElem?_map,List.getElem?_eq_getElem hk,List.getElem?_eq_getElem jB];simp only[Option.map_some,U,Uo,OA,OB,OC,Up,Xv,Xw,EM,asInt,bu,asBool,ae,if_true,gy,bm,kF,fb,an (show k<9223372036854775807 by omega)];have hd:=MP a[k] b[k];by_cases he:a[k]=b[k]
   ·simp[he,c9]
   ·rw[if_pos,if_neg (by simpa using he)]
    ·rfl
    ·rw[decide_eq_false he]at hd;revert hd;generalize decide (a[k].dv=b[k].dv)=x1;generalize decide (a[k].day=b[k].day)=x2;generalize decide (a[k].inst=b[k].inst)=x3;generalize decide (a[k].id=b[k].id)=x4;generalize decide (a[k].bj=b[k].bj)=x5;generalize decide (a[k].free=b[k].free)=x6;generalize decide (a[k].qH=b[k].qH)=x7;generalize decide (a[k].calls=b[k].calls)=x8;revert x1 x2 x3 x4 x5 x6 x7 x8;decide
  ·unfold lB;dsimp only;rw[if_neg (by simp)]
  ·exact(mz a b h (some (PV.bool false)) (some (PV.bool true))).trans EU
 ·rw[if_pos (by rw[pU];simp[h])];have:a≠b:=fun e=>h (by rw[e]);simp[this]
def eqN(A B:ah):Bool:=decide (A.stops=B.stops)&&decide (A.ab=B.ab)&&decide (A.ai=B.ai)&&decide (A.paths=B.paths)&&decide (A.runs=B.runs)&&(decide (A.aO=B.aO)&&decide (A.within=B.within)&&decide (A.cap=B.cap)&&decide (A.ar=B.ar))
theorem RL(A:ah):eqN A A=true:=by simp[eqN]
def KC(A B:ah):Bool:=decide (A.runs=B.runs)&&(decide (A.aO=B.aO)&&decide (A.within=B.within)&&decide (A.cap=B.cap)&&decide (A.ar=B.ar))
theorem ON(A B:ah)(hA:A.Ok)(h:A.paths.length=B.paths.length):cd.run (gq) (0,A.stops.map Stop.pv,A.ab.map av.pv,A.runs.map bE.pv,A.ai.map aH.pv,A.paths.map Path.pv,A.ar.map aR.pv,A.aO,A.within,A.cap,B.stops.map Stop.pv,B.ab.map av.pv,B.runs.map bE.pv,B.ai.map aH.pv,B.paths.map Path.pv,B.ar.map aR.pv,B.aO,B.within,B.cap,())=if A.paths=B.paths then some (.bool (KC A B))else some (.bool false):=by
 have hm:=aW;have hl:=hA.paths.1;have e1:=pV A.runs B.runs hA.runs.1 (fun x hx=>(hA.runs.2 x hx).calls.1);have e2:=nH A.ar B.ar A.aO A.within A.cap B.aO B.within B.cap hA.ar.1;unfold ud at e2;generalize tD:(some (.bool (KC A B)):Option PV)=fin;generalize ha:A.paths=a at h hl⊢;generalize hb:B.paths=b at h⊢;refine(aX (fun k=>((k:Int),A.stops.map Stop.pv,A.ab.map av.pv,A.runs.map bE.pv,A.ai.map aH.pv,a.map Path.pv,A.ar.map aR.pv,A.aO,A.within,A.cap,B.stops.map Stop.pv,B.ab.map av.pv,B.runs.map bE.pv,B.ai.map aH.pv,b.map Path.pv,B.ar.map aR.pv,B.aO,B.within,B.cap,())) a.length (fun k=>if a[k]?=b[k]? then none else some (some (PV.bool false))) (fun k hk rec=>?_) (fin:=fin) (fun rec=>?_) (by have:=aS;omega) rfl).trans ?_
 ·have h1:decide ((k:Int)<(a.length:Int))=true:=by simp;omega
  have jB:k<b.length:=by omega
  unfold gq;dsimp only;try rw[List.length_map]
  rw[if_pos h1,az,az,List.getElem?_map,List.getElem?_map,List.getElem?_eq_getElem hk,List.getElem?_eq_getElem jB];simp only[Option.map_some,U];rw[if_pos ⟨rfl,rfl⟩,Path.peq,an (by omega)];by_cases he:a[k]=b[k]
  ·simp[he,c9]
  ·simp[he,c9]
 ·subst ha;subst hb;rw[←tD];unfold gq;dsimp only;rw[if_neg (by simp)];simp only[e1,e2,U,asBool,dG];rfl
 ·exact mz a b h _ _
theorem OO(A B:ah)(hA:A.Ok)(h:A.ai.length=B.ai.length):cd.run (gr cd) (0,A.stops.map Stop.pv,A.ab.map av.pv,A.runs.map bE.pv,A.ai.map aH.pv,A.paths.map Path.pv,A.ar.map aR.pv,A.aO,A.within,A.cap,B.stops.map Stop.pv,B.ab.map av.pv,B.runs.map bE.pv,B.ai.map aH.pv,B.paths.map Path.pv,B.ar.map aR.pv,B.aO,B.within,B.cap,())=if A.ai=B.ai then cd.run (gq) (0,A.stops.map Stop.pv,A.ab.map av.pv,A.runs.map bE.pv,A.ai.map aH.pv,A.paths.map Path.pv,A.ar.map aR.pv,A.aO,A.within,A.cap,B.stops.map Stop.pv,B.ab.map av.pv,B.runs.map bE.pv,B.ai.map aH.pv,B.paths.map Path.pv,B.ar.map aR.pv,B.aO,B.within,B.cap,())else some (.bool false):=by
 have hm:=aW;have hl:=hA.ai.1;have e1:=pV A.runs B.runs hA.runs.1 (fun x hx=>(hA.runs.2 x hx).calls.1);have e2:=nH A.ar B.ar A.aO A.within A.cap B.aO B.within B.cap hA.ar.1;unfold ud at e2;generalize tD:(cd.run (gq) (0,A.stops.map Stop.pv,A.ab.map av.pv,A.runs.map bE.pv,A.ai.map aH.pv,A.paths.map Path.pv,A.ar.map aR.pv,A.aO,A.within,A.cap,B.stops.map Stop.pv,B.ab.map av.pv,B.runs.map bE.pv,B.ai.map aH.pv,B.paths.map Path.pv,B.ar.map aR.pv,B.aO,B.within,B.cap,()):Option PV)=fin;generalize ha:A.ai=a at h hl⊢;generalize hb:B.ai=b at h⊢;refine(aX (fun k=>((k:Int),A.stops.map Stop.pv,A.ab.map av.pv,A.runs.map bE.pv,a.map aH.pv,A.paths.map Path.pv,A.ar.map aR.pv,A.aO,A.within,A.cap,B.stops.map Stop.pv,B.ab.map av.pv,B.runs.map bE.pv,b.map aH.pv,B.paths.map Path.pv,B.ar.map aR.pv,B.aO,B.within,B.cap,())) a.length (fun k=>if a[k]?=b[k]? then none else some (some (PV.bool false))) (fun k hk rec=>?_) (fin:=fin) (fun rec=>?_) (by have:=aS;omega) rfl).trans ?_
 ·have h1:decide ((k:Int)<(a.length:Int))=true:=by simp;omega
  have jB:k<b.length:=by omega
  unfold gr;dsimp only;try rw[List.length_map]
  rw[if_pos h1,az,az,List.getElem?_map,List.getElem?_map,List.getElem?_eq_getElem hk,List.getElem?_eq_getElem jB];simp only[Option.map_some,U];rw[if_pos ⟨rfl,rfl⟩,aH.peq,an (by omega)];by_cases he:a[k]=b[k]
  ·simp[he,c9]
  ·simp[he,c9]
 ·subst ha;subst hb;rw[←tD];unfold gr;dsimp only;rw[if_neg (by simp)]
 ·exact mz a b h _ _
theorem OP(A B:ah)(hA:A.Ok)(h:A.ab.length=B.ab.length):cd.run (gu cd) (0,A.stops.map Stop.pv,A.ab.map av.pv,A.runs.map bE.pv,A.ai.map aH.pv,A.paths.map Path.pv,A.ar.map aR.pv,A.aO,A.within,A.cap,B.stops.map Stop.pv,B.ab.map av.pv,B.runs.map bE.pv,B.ai.map aH.pv,B.paths.map Path.pv,B.ar.map aR.pv,B.aO,B.within,B.cap,())=if A.ab=B.ab then cd.run (gr cd) (0,A.stops.map Stop.pv,A.ab.map av.pv,A.runs.map bE.pv,A.ai.map aH.pv,A.paths.map Path.pv,A.ar.map aR.pv,A.aO,A.within,A.cap,B.stops.map Stop.pv,B.ab.map av.pv,B.runs.map bE.pv,B.ai.map aH.pv,B.paths.map Path.pv,B.ar.map aR.pv,B.aO,B.within,B.cap,())else some (.bool false):=by
 have hm:=aW;have hl:=hA.ab.1;have e1:=pV A.runs B.runs hA.runs.1 (fun x hx=>(hA.runs.2 x hx).calls.1);have e2:=nH A.ar B.ar A.aO A.within A.cap B.aO B.within B.cap hA.ar.1;unfold ud at e2;generalize tD:(cd.run (gr cd) (0,A.stops.map Stop.pv,A.ab.map av.pv,A.runs.map bE.pv,A.ai.map aH.pv,A.paths.map Path.pv,A.ar.map aR.pv,A.aO,A.within,A.cap,B.stops.map Stop.pv,B.ab.map av.pv,B.runs.map bE.pv,B.ai.map aH.pv,B.paths.map Path.pv,B.ar.map aR.pv,B.aO,B.within,B.cap,()):Option PV)=fin;generalize ha:A.ab=a at h hl⊢;generalize hb:B.ab=b at h⊢;refine(aX (fun k=>((k:Int),A.stops.map Stop.pv,a.map av.pv,A.runs.map bE.pv,A.ai.map aH.pv,A.paths.map Path.pv,A.ar.map aR.pv,A.aO,A.within,A.cap,B.stops.map Stop.pv,b.map av.pv,B.runs.map bE.pv,B.ai.map aH.pv,B.paths.map Path.pv,B.ar.map aR.pv,B.aO,B.within,B.cap,())) a.length (fun k=>if a[k]?=b[k]? then none else some (some (PV.bool false))) (fun k hk rec=>?_) (fin:=fin) (fun rec=>?_) (by have:=aS;omega) rfl).trans ?_
 ·have h1:decide ((k:Int)<(a.length:Int))=true:=by simp;omega
  have jB:k<b.length:=by omega
  unfold gu;dsimp only;try rw[List.length_map]
  rw[if_pos h1,az,az,List.getElem?_map,List.getElem?_map,List.getElem?_eq_getElem hk,List.getElem?_eq_getElem jB];simp only[Option.map_some,U];rw[if_pos ⟨rfl,rfl⟩,av.peq,an (by omega)];by_cases he:a[k]=b[k]
  ·simp[he,c9]
  ·simp[he,c9]
 ·subst ha;subst hb;rw[←tD];unfold gu;dsimp only;rw[if_neg (by simp)]
 ·exact mz a b h _ _
theorem OQ(A B:ah)(hA:A.Ok)(h:A.stops.length=B.stops.length):cd.run (lC cd) (0,A.stops.map Stop.pv,A.ab.map av.pv,A.runs.map bE.pv,A.ai.map aH.pv,A.paths.map Path.pv,A.ar.map aR.pv,A.aO,A.within,A.cap,B.stops.map Stop.pv,B.ab.map av.pv,B.runs.map bE.pv,B.ai.map aH.pv,B.paths.map Path.pv,B.ar.map aR.pv,B.aO,B.within,B.cap,())=if A.stops=B.stops then cd.run (gu cd) (0,A.stops.map Stop.pv,A.ab.map av.pv,A.runs.map bE.pv,A.ai.map aH.pv,A.paths.map Path.pv,A.ar.map aR.pv,A.aO,A.within,A.cap,B.stops.map Stop.pv,B.ab.map av.pv,B.runs.map bE.pv,B.ai.map aH.pv,B.paths.map Path.pv,B.ar.map aR.pv,B.aO,B.within,B.cap,())else some (.bool false):=by
 have hm:=aW;have hl:=hA.stops.1;have e1:=pV A.runs B.runs hA.runs.1 (fun x hx=>(hA.runs.2 x hx).calls.1);have e2:=nH A.ar B.ar A.aO A.within A.cap B.aO B.within B.cap hA.ar.1;unfold ud at e2;generalize tD:(cd.run (gu cd) (0,A.stops.map Stop.pv,A.ab.map av.pv,A.runs.map bE.pv,A.ai.map aH.pv,A.paths.map Path.pv,A.ar.map aR.pv,A.aO,A.within,A.cap,B.stops.map Stop.pv,B.ab.map av.pv,B.runs.map bE.pv,B.ai.map aH.pv,B.paths.map Path.pv,B.ar.map aR.pv,B.aO,B.within,B.cap,()):Option PV)=fin;generalize ha:A.stops=a at h hl⊢;generalize hb:B.stops=b at h⊢;refine(aX (fun k=>((k:Int),a.map Stop.pv,A.ab.map av.pv,A.runs.map bE.pv,A.ai.map aH.pv,A.paths.map Path.pv,A.ar.map aR.pv,A.aO,A.within,A.cap,b.map Stop.pv,B.ab.map av.pv,B.runs.map bE.pv,B.ai.map aH.pv,B.paths.map Path.pv,B.ar.map aR.pv,B.aO,B.within,B.cap,())) a.length (fun k=>if a[k]?=b[k]? then none else some (some (PV.bool false))) (fun k hk rec=>?_) (fin:=fin) (fun rec=>?_) (by have:=aS;omega) rfl).trans ?_
 ·have h1:decide ((k:Int)<(a.length:Int))=true:=by simp;omega
  have jB:k<b.length:=by omega
  unfold lC;dsimp only;try rw[List.length_map]
  rw[if_pos h1,az,az,List.getElem?_map,List.getElem?_map,List.getElem?_eq_getElem hk,List.getElem?_eq_getElem jB];simp only[Option.map_some,U];rw[if_pos ⟨rfl,rfl⟩,Stop.peq,an (by omega)];by_cases he:a[k]=b[k]
  ·simp[he,c9]
  ·simp[he,c9]
 ·subst ha;subst hb;rw[←tD];unfold lC;dsimp only;rw[if_neg (by simp)]
 ·exact mz a b h _ _
theorem OR(A B:ah)(hA:A.Ok):fe [A.pv,B.pv]=some (.bool (eqN A B)):=by
 simp only[fe,mL,qI,rq,rr,ru,ry,rz,rA,rB,rC,rD,U,bm,List.length_map,pU];unfold eqN;by_cases h1:A.stops.length=B.stops.length
 ·by_cases h2:A.ab.length=B.ab.length
  ·by_cases h3:A.ai.length=B.ai.length
   ·by_cases h4:A.paths.length=B.paths.length
    ·rw[if_neg (by simp[h1,h2,h3,h4]),OQ A B hA h1,OP A B hA h2,OO A B hA h3,ON A B hA h4];unfold KC;by_cases g1:A.stops=B.stops
     ·by_cases g2:A.ab=B.ab
      ·by_cases g3:A.ai=B.ai
       ·by_cases g4:A.paths=B.paths
        ·rw[if_pos g1,if_pos g2,if_pos g3,if_pos g4];simp[g1,g2,g3,g4]
        ·rw[if_pos g1,if_pos g2,if_pos g3,if_neg g4];simp[g4]
       ·rw[if_pos g1,if_pos g2,if_neg g3];simp[g3]
      ·rw[if_pos g1,if_neg g2];simp[g2]
     ·rw[if_neg g1];simp[g1]
    ·rw[if_pos (by simp[h4])];have:A.paths≠B.paths:=fun e=>h4 (by rw[e]);simp[this]
   ·rw[if_pos (by simp[h3])];have:A.ai≠B.ai:=fun e=>h3 (by rw[e]);simp[this]
  ·rw[if_pos (by simp[h2])];have:A.ab≠B.ab:=fun e=>h2 (by rw[e]);simp[this]
 ·rw[if_pos (by simp[h1])];have:A.stops≠B.stops:=fun e=>h1 (by rw[e]);simp[this]
end Go.Ab.Tt
namespace Go.Ab.Tt
set_option maxRecDepth 100000
set_option linter.unusedVariables false
set_option linter.unusedSimpArgs false
theorem cJ(es:List PV)(n:Nat)(h:es.length≤1000)(hn:0<n)(hn2:n≤1000):(([]:List PV)++es).length*n≤aa∧0<n:=by refine⟨?_,hn⟩;rw[List.nil_append];have:es.length*n≤1000*1000:=Nat.mul_le_mul h hn2;unfold aa;omega
theorem ko(es:List PV):List.take (((([]:List PV)++es).length:Int).toNat) (([]:List PV)++es)=es:=by simp
theorem Cb(es:List PV)(h:es.length≤1000):cy [.rs 4 es]=some (.rs 4 es):=by simp only[cy,kh,ae,if_true,U];rw[if_pos (cJ es 40 h (by decide) (by decide)),if_pos ⟨by omega,by omega,by omega,trivial⟩,ko]
theorem zH(es:List PV)(h:es.length≤1000):ck [.rs 3 es]=some (.rs 3 es):=by simp only[ck,jt,ae,if_true,U];rw[if_pos (cJ es 32 h (by decide) (by decide)),if_pos ⟨by omega,by omega,by omega,trivial⟩,ko]
theorem DF(es:List PV)(h:es.length≤1000):cR [.rs 8 es]=some (.rs 8 es):=by simp only[cR,lb,ae,if_true,U];rw[if_pos (cJ es 80 h (by decide) (by decide)),if_pos ⟨by omega,by omega,by omega,trivial⟩,ko]
theorem Cc(es:List PV)(h:es.length≤1000):cz [.rs 5 es]=some (.rs 5 es):=by simp only[cz,kg,ae,if_true,U];rw[if_pos (cJ es 40 h (by decide) (by decide)),if_pos ⟨by omega,by omega,by omega,trivial⟩,ko]
theorem ue(es:List PV)(h:es.length≤1000):bG [.rs 4 es]=some (.rs 4 es):=by simp only[bG,gL,ae,if_true,U];rw[if_pos (cJ es 32 h (by decide) (by decide)),if_pos ⟨by omega,by omega,by omega,trivial⟩,ko]
theorem Cd(es:List PV)(h:es.length≤1000):cA [.rs 5 es]=some (.rs 5 es):=by simp only[cA,j8,ae,if_true,U];rw[if_pos (cJ es 32 h (by decide) (by decide)),if_pos ⟨by omega,by omega,by omega,trivial⟩,ko]
theorem vH(es:List PV)(h:es.length≤1000):bN [.rs 6 es]=some (.rs 6 es):=by simp only[bN,hZ,ae,if_true,U];rw[if_pos (cJ es 56 h (by decide) (by decide)),if_pos ⟨by omega,by omega,by omega,trivial⟩,ko]
variable{A:Type}
def mix(f g:A→PV)(l:List A)(k:Nat):List PV:=(l.take k).map f++(l.drop k).map g
theorem Hb(f g:A→PV)(l:List A):mix f g l 0=l.map g:=by simp[mix]
theorem EW(f g:A→PV)(l:List A):mix f g l l.length=l.map f:=by simp[mix]
theorem MQ(f g:A→PV)(l:List A)(k:Nat):(mix f g l k).length=l.length:=by simp[mix];omega
theorem MR(f g:A→PV)(l:List A)(k:Nat)(h:k<l.length):(mix f g l k)[k]?=some (g l[k]):=by unfold mix;rw[List.getElem?_append_right (by simp;omega)];simp only[List.length_map,List.length_take,Nat.min_eq_left (Nat.le_of_lt h),Nat.sub_self,List.getElem?_map,List.getElem?_drop,Nat.add_zero,List.getElem?_eq_getElem h,Option.map_some]
theorem MS(f g:A→PV)(l:List A)(k:Nat)(h:k<l.length):(mix f g l k).set k (f l[k])=mix f g l (k+1):=by
 apply List.ext_getElem?;intro j;rw[List.getElem?_set];unfold mix;by_cases hj:k=j
 ·subst hj;rw[if_pos rfl,if_pos (by simp;omega),List.getElem?_append_left (by simp;omega)];simp[h]
 ·rw[if_neg hj];by_cases bq:j<k
  ·rw[List.getElem?_append_left (by simp;omega),List.getElem?_append_left (by simp;omega)];simp[bq,Nat.lt_succ_of_lt bq]
  ·rw[List.getElem?_append_right (by simp;omega),List.getElem?_append_right (by simp;omega)];simp only[List.length_map,List.length_take,List.getElem?_map,List.getElem?_drop];congr 2;omega
theorem eh(f g:A→PV)(l:List A)(k:Nat)(h:k<l.length)(p:PV):((mix f g l k).set k p)[k]?=some p:=by rw[List.getElem?_set,if_pos rfl,if_pos (by rw[MQ];exact h)]
theorem EX(f g:A→PV)(l:List A)(k:Nat)(h:k<l.length):af (k:Int) (mix f g l k).length:=by rw[MQ];exact⟨by omega,by omega⟩
def bE.pK(x:bE):PV:=.agg [.int .i64 x.dv,.int .i64 x.day,.int .i64 x.inst,.str x.id,.int .i64 x.bj,.bool x.free,.bool x.qH,.fO 5 (x.calls.map aw.pv)]
theorem kq(l:List bE):(l.map bE.pK).map PV.strip=l.map bE.pv:=by rw[List.map_map];rfl
end Go.Ab.Tt
