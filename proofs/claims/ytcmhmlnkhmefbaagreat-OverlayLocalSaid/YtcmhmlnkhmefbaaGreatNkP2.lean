import Derived.Test.YtcmhmlnkhmefbaaGreatNkP1
import Derived.Test.YtcmhmlnkhmefbaaGreatNwP2
namespace Go.Ab.Tt
set_option maxRecDepth 100000
set_option linter.unusedVariables false
set_option linter.unusedSimpArgs false
def bZ(x:Path):Int×Int×Bool:=(x.a,x.b,x.free)
def yK(x:Int×Int×Bool):PV:=.agg [.int .i64 x.1,.int .i64 x.2.1,.bool x.2.2]
theorem Hc(a b:Int×Int×Bool):cC (yK a).cells (yK b).cells=decide (a=b):=by obtain⟨a1,a2,a3⟩:=a;obtain⟨b1,b2,b3⟩:=b;rw[Bool.eq_iff_iff];simp[yK,PV.cells,cC,peq]
def du(l:List Path)(n:Int)(k:Nat):Int:=match l[k]? with
 |none=>0
 |some x=>if(decide (x.a<0)||decide (x.a≥n)||decide (x.b<0)||decide (x.b≥n)||decide (x.a=x.b))=true then 9 else if(decide (x.bS<1)||decide (x.bS>14400))=true then 2 else if bZ x∈(l.map bZ).take k then 6 else 0
theorem KA(l:List Path)(n:Int)(hl:l.length≤maxLen):eC [.rs 4 (l.map Path.pv),.int .i64 n]=some (res (bW (du l n) l.length).1 (bW (du l n) l.length).2):=by
 have hm:=aW;simp only[eC,oS,ab,asInt,if_true,U,List.length_map];rw[←mQ];refine aX (fun k=>(n,l.map Path.pv,(l.length:Int),(k:Int),seen yK ((l.map bZ).take k),())) l.length _ (fun k hk rec=>?_) (fun rec=>?_) ?_ rfl
 ·have h1:(k:Int)<(l.length:Int):=by omega
  have qw:eR (.agg [.int .i64 l[k].a,.int .i64 l[k].b,.bool l[k].free]) (.bool true) (seen yK ((l.map bZ).take k))=_:=mR Hc (bZ l[k]) ((l.map bZ).take k);have ru:dN (.agg [.int .i64 l[k].a,.int .i64 l[k].b,.bool l[k].free]) (.bool false) (seen yK ((l.map bZ).take k))=_:=kJ Hc (bZ l[k]) ((l.map bZ).take k);simp only[lu,decide_eq_true_eq,h1,if_true,az,List.getElem?_map,List.getElem?_eq_getElem hk,Option.map_some,U,G9,Ha,MW,Hb,asInt,asBool,qw,ru,ff,an (show k<9223372036854775807 by omega),oW bZ l k hk];unfold du;rw[List.getElem?_eq_getElem hk];simp only;by_cases bP:bZ l[k]∈(l.map bZ).take k
  ·simp only[bP,if_true];by_cases e1:l[k].a<0<;>by_cases e2:l[k].a≥n<;>by_cases e3:l[k].b<0<;>by_cases e4:l[k].b≥n<;>by_cases e5:l[k].a=l[k].b<;>by_cases e6:l[k].bS<1<;>by_cases e7:l[k].bS>14400<;>simp only[e1,e2,e3,e4,e5,e6,e7,decide_true,decide_false,Bool.or_true,Bool.true_or,Bool.or_false,if_true,if_false,Bool.false_eq_true]<;>rfl
  ·simp only[bP,if_false,Bool.false_eq_true];by_cases e1:l[k].a<0<;>by_cases e2:l[k].a≥n<;>by_cases e3:l[k].b<0<;>by_cases e4:l[k].b≥n<;>by_cases e5:l[k].a=l[k].b<;>by_cases e6:l[k].bS<1<;>by_cases e7:l[k].bS>14400<;>simp only[e1,e2,e3,e4,e5,e6,e7,decide_true,decide_false,Bool.or_true,Bool.true_or,Bool.or_false,if_true,if_false,Bool.false_eq_true]<;>rfl
 ·simp only[lu,decide_eq_true_eq,Int.lt_irrefl,if_false];rfl
 ·have:=aS;omega
def toFp(p:Path):Nw.Fp:=⟨p.a.toNat,p.b.toNat,p.bS.toNat,p.free⟩
def Sound(l:List Path)(n:Nat):Prop:=∀p∈l,0≤p.a∧p.a<n∧0≤p.b∧p.b<n∧1≤p.bS∧p.bS≤14400
variable{l:List Path}{n:Nat}
theorem Hd(h:(bW (du l n) l.length).2=0):Sound l n:=by
 intro p hp;obtain⟨k,hk,rfl⟩:=List.getElem_of_mem hp;have h0:=(mf _ _).1 h k hk;unfold du at h0;rw[List.getElem?_eq_getElem hk]at h0;simp only at h0;by_cases c1:(decide (l[k].a<0)||decide (l[k].a≥n)||decide (l[k].b<0)||decide (l[k].b≥n)||decide (l[k].a=l[k].b))=true
 ·rw[if_pos c1]at h0;omega
 ·rw[if_neg c1]at h0;by_cases c2:(decide (l[k].bS<1)||decide (l[k].bS>14400))=true
  ·rw[if_pos c2]at h0;omega
  ·simp only[Bool.or_eq_true,decide_eq_true_eq]at c1 c2;omega
theorem toFp_pv{p:Path}(h1:0≤p.a)(h2:0≤p.b)(h3:1≤p.bS):(toFp p).pv=p.pv:=by simp only[toFp,Nw.Fp.pv,Path.pv];rw[Int.toNat_of_nonneg h1,Int.toNat_of_nonneg h2,Int.toNat_of_nonneg (by omega)]
theorem RT(h:Sound l n):(l.map toFp).map Nw.Fp.pv=l.map Path.pv:=by rw[List.map_map];apply List.map_congr_left;intro p hp;exact toFp_pv (h p hp).1 (h p hp).2.2.1 (h p hp).2.2.2.2.1
def MY(e:List PV):Path:=match e with|[.int .i64 a,.int .i64 b,.int .i64 s,.bool f]=>⟨a,b,s,f⟩|_=>⟨0,0,0,false⟩
theorem Ch:∀(L:List (List PV)),(∀e∈L,Nw.IsF e)→eE L=(L.map MY).map Path.pv
 |[],_=>rfl
 |e::L,h=>by obtain⟨i,k,s,b,rfl⟩:=h e (by simp);have:=Ch L fun x hx=>h x (by simp[hx]);unfold eE at this⊢;rw[List.map_cons,List.map_cons,List.map_cons,this];rfl
def gX(l:List Path)(n:Nat):List Path:=(Nw.CU n (Nw.pF n (l.map toFp) false) (Nw.pF n (l.map toFp) true)).map MY
theorem DP(hn:n≤64)(hl:l.length≤4096)(h:Sound l n):c8 [.rs 4 (l.map Path.pv),.int .i64 n]=some (.rs 4 ((gX l n).map Path.pv))∧fx [.rs 4 (l.map Path.pv),.int .i64 n]=some (.rs 4 ((gX l n).map Path.pv)):=by have:=Nw.KB (l.map toFp) n hn (by simpa using hl) (fun p hp=>by obtain⟨q,hq,rfl⟩:=List.mem_map.1 hp;have:=h q hq;simp only[toFp];omega);rw[RT h,Ch _ (Nw.He n _ _)]at this;exact this
theorem Hf(l:List Path)(n:Nat)(hn:n≤64):(gX l n).length≤8192:=by
 have h1:(gX l n).length=(eE (Nw.CU n (Nw.pF n (l.map toFp) false) (Nw.pF n (l.map toFp) true))).length:=by simp[gX,eE]
 rw[h1,Nw.yL];have h2:=Nw.xp (it:=fun i k=>Nw.An (Nw.pF n (l.map toFp) false i k) (Nw.pF n (l.map toFp) true i k) i k) (fun i k=>Nw.EZ _ _ i k) n n;have h3:2*n*n≤2*64*64:=Nat.mul_le_mul (Nat.mul_le_mul_left 2 hn) hn;omega
theorem Hg(x y:Path):cC [cell x.pv 0,cell x.pv 1,cell x.pv 2,cell x.pv 3] [cell y.pv 0,cell y.pv 1,cell y.pv 2,cell y.pv 3]=decide (x=y):=by rw[Bool.eq_iff_iff];obtain⟨a,b,c,d⟩:=x;obtain⟨a',b',c',d'⟩:=y;simp[G9,Ha,MW,Hb,cC,peq]
theorem xq(x:Path):gU (Kd.int IntKind.i64::[].append (Kd.int IntKind.i64::[].append (Kd.int IntKind.i64::[].append (Kd.bool::[].append [])))) [cell x.pv 0,cell x.pv 1,cell x.pv 2,cell x.pv 3]=true:=rfl
def lv(l:List Path)(n:Nat):Bool:=decide (gX l n=l)
theorem Hh(hn:n≤64)(hl:l.length≤4096)(h:(bW (du l n) l.length).2=0):dr [.rs 4 (l.map Path.pv),.int .i64 n]=some (.bool (lv l n)):=by
 have hm:4096≤maxLen:=by decide
 have hs:=KA l n (by omega);have hf:=OU _ _ h;rw[h,hf]at hs;have hc:=(DP hn hl (Hd h)).1;have se:=Hf l n hn;have s9:¬decide ((n:Int)>64)=true:=by simp;omega
 have h0:¬(0:Int)>(n:Int):=by omega
 simp only[dr,lk,ab,asInt,if_true,U];rw[if_neg s9,hs];simp only[res,bV,List.length_cons,List.length_nil,Nat.reduceAdd,if_true,U,List.getD_cons_zero,List.getD_cons_succ,asInt,if_neg h0,hc,ab,List.length_map];rw[if_neg (by decide)];unfold lv;by_cases hlen:(gX l n).length=l.length
 ·rw[if_neg (by simp[kH,hlen])];have hr:=mB (gX l n) l hlen (some (PV.bool false)) (some (PV.bool true));have:some (PV.bool (decide (gX l n=l)))=if gX l n=l then some (PV.bool true)else some (PV.bool false):=by by_cases hc:gX l n=l<;>simp[hc]
  rw[this,←hr];refine aX (fun k=>(l.map Path.pv,(gX l n).map Path.pv,((gX l n).length:Int),(k:Int),())) (gX l n).length _ (fun k hk rec=>?_) (fun rec=>?_) ?_ rfl
  ·have h1:decide ((k:Int)<((gX l n).length:Int))=true:=by simp;omega
   have jE:k<l.length:=by omega
   unfold iY;dsimp only;rw[if_pos h1,az,List.getElem?_map,List.getElem?_eq_getElem hk,az,List.getElem?_map,List.getElem?_eq_getElem jE];simp only[Option.map_some,U];rw[if_pos ⟨xq _,xq _⟩,Hg,an (by omega)];by_cases he:(gX l n)[k]=l[k]
   ·simp[he,da]
   ·simp[he,da]
  ·unfold iY;dsimp only;rw[if_neg (by simp)]
  ·have:=aS;omega
 ·rw[if_pos (by simp[kH];omega)];rw[decide_eq_false (fun hc=>hlen (by rw[hc]))]
def cX(l:List Path)(n:Nat):Int×Int:=if(bW (du l n) l.length).2=0 then(if lv l n=true then(0,0)else(0,18))else bW (du l n) l.length
def qM(x:Int×Int×Bool):PV:=.agg [.int .i64 x.1,.int .i64 x.2.1,.int .i64 0,.bool x.2.2]
theorem aaC(a b:Int×Int×Bool):cC (qM a).cells (qM b).cells=decide (a=b):=by obtain⟨a1,a2,a3⟩:=a;obtain⟨b1,b2,b3⟩:=b;rw[Bool.eq_iff_iff];simp[qM,PV.cells,cC,peq]
theorem zN(N:af)(l:List Path)(n:Nat)(hl:l.length≤4096)(hlen:(N.stops.map Stop.pv).length=n)(k:Nat)(hk:k<l.length)(rec:OV→Option PV):cU (l.map Path.pv,(l.length:Int),(k:Int),N.stops.map Stop.pv,N.ae.map av.pv,N.runs.map bx.pv,N.ah.map aH.pv,l.map Path.pv,N.ar.map aR.pv,N.aO,N.within,N.cap,0,0,0,seen qM ((l.map bZ).take k),()) rec=da (if du l n k=0 then none else some (some (r3 4 k (du l n k)))) (rec (l.map Path.pv,(l.length:Int),((k+1:Nat):Int),N.stops.map Stop.pv,N.ae.map av.pv,N.runs.map bx.pv,N.ah.map aH.pv,l.map Path.pv,N.ar.map aR.pv,N.aO,N.within,N.cap,0,0,0,seen qM ((l.map bZ).take (k+1)),())):=by
 have h1:decide ((k:Int)<(l.length:Int))=true:=by simp;omega
 have qw:eR (.agg [.int .i64 l[k].a,.int .i64 l[k].b,.int .i64 0,.bool l[k].free]) (.bool true) (seen qM ((l.map bZ).take k))=_:=mR aaC (bZ l[k]) ((l.map bZ).take k);have ru:dN (.agg [.int .i64 l[k].a,.int .i64 l[k].b,.int .i64 0,.bool l[k].free]) (.bool false) (seen qM ((l.map bZ).take k))=_:=kJ aaC (bZ l[k]) ((l.map bZ).take k);unfold cU;dsimp only;rw[if_pos h1,az,List.getElem?_map,List.getElem?_eq_getElem hk,hlen];simp only[Option.map_some,U,G9,Ha,MW,Hb,asInt,asBool,if_true,wu,bn,ff,qw,ru,Cg,MX,yJ,wK,Cf,oW bZ l k hk,an (show k<9223372036854775807 by omega)];have hA:(!(decide (l[k].a≥0)&&decide (l[k].a<(n:Int)))|| !(decide (l[k].b≥0)&&decide (l[k].b<(n:Int)))||decide (l[k].a=l[k].b))=(decide (l[k].a<0)||decide (l[k].a≥(n:Int))||decide (l[k].b<0)||decide (l[k].b≥(n:Int))||decide (l[k].a=l[k].b)):=by rw[Bool.eq_iff_iff];simp only[Bool.or_eq_true,Bool.not_eq_true',Bool.and_eq_false_iff,decide_eq_true_eq,decide_eq_false_iff_not];omega
 rw[hA];unfold du;rw[List.getElem?_eq_getElem hk];simp only;generalize (decide (l[k].a<0)||decide (l[k].a≥(n:Int))||decide (l[k].b<0)||decide (l[k].b≥(n:Int))||decide (l[k].a=l[k].b))=A;generalize (decide (l[k].bS<1)||decide (l[k].bS>14400))=B;by_cases bP:bZ l[k]∈(l.map bZ).take k
 ·simp only[bP,if_true];cases A<;>cases B<;>rfl
 ·simp only[bP,if_false];cases A<;>cases B<;>rfl
theorem CV(N:af)(hn:N.stops.length≤64)(hl:N.paths.length≤4096):bG [N.pv]=some (prt 4 (cX N.paths N.stops.length)):=by
 have hm:4096≤maxLen:=by decide
 simp only[bG,j7,qL,ry,rz,rA,rB,rC,rD,rE,rF,rG,U,List.length_map];generalize Iy:N.paths=l at hl⊢;generalize N1:N.stops.length=n at hn⊢;have hlen:(N.stops.map Stop.pv).length=n:=by simpa using N1
 have hg:=il (du l n) l.length (fun i e=>r3 4 i e) (some (if lv l n=true then r3 0 0 0 else r3 4 0 18));have hR:some (prt 4 (cX l n))=if(bW (du l n) l.length).2=0 then some (if lv l n=true then r3 0 0 0 else r3 4 0 18)else some (r3 4 (bW (du l n) l.length).1 (bW (du l n) l.length).2):=by
  unfold cX prt;by_cases h:(bW (du l n) l.length).2=0
  ·rw[if_pos h,if_pos h];cases lv l n<;>rfl
  ·rw[if_neg h,if_neg h,if_neg h]
 rw[hR,←hg];by_cases hz:(bW (du l n) l.length).2=0
 ·refine aX (fun k=>(l.map Path.pv,(l.length:Int),(k:Int),N.stops.map Stop.pv,N.ae.map av.pv,N.runs.map bx.pv,N.ah.map aH.pv,l.map Path.pv,N.ar.map aR.pv,N.aO,N.within,N.cap,0,0,0,seen qM ((l.map bZ).take k),())) l.length _ (fun k hk rec=>zN N l n hl hlen k hk rec) (fun rec=>?_) ?_ rfl
  ·unfold cU;dsimp only;rw[if_neg (by simp),hlen,Hh hn hl hz];simp only[U,asBool,Cg,MX,yJ,wK,Cf];cases lv l n<;>rfl
  ·have:=aS;omega
 ·have sZ:=aX (body:=cU) (fun k=>(l.map Path.pv,(l.length:Int),(k:Int),N.stops.map Stop.pv,N.ae.map av.pv,N.runs.map bx.pv,N.ah.map aH.pv,l.map Path.pv,N.ar.map aR.pv,N.aO,N.within,N.cap,0,0,0,seen qM ((l.map bZ).take k),())) l.length _ (fin:=cU (l.map Path.pv,(l.length:Int),(l.length:Int),N.stops.map Stop.pv,N.ae.map av.pv,N.runs.map bx.pv,N.ah.map aH.pv,l.map Path.pv,N.ar.map aR.pv,N.aO,N.within,N.cap,0,0,0,seen qM ((l.map bZ).take l.length),()) fun _=>none) (fun k hk rec=>zN N l n hl hlen k hk rec) (fun rec=>?_) (by have:=aS;omega) (s0:=(l.map Path.pv,(l.length:Int),0,N.stops.map Stop.pv,N.ae.map av.pv,N.runs.map bx.pv,N.ah.map aH.pv,l.map Path.pv,N.ar.map aR.pv,N.aO,N.within,N.cap,0,0,0,[],())) rfl
  ·rw[sZ,il,il,if_neg hz,if_neg hz]
  ·unfold cU;dsimp only;rw[if_neg (by simp),if_neg (by simp)]
end Go.Ab.Tt
namespace Go.Ab.Tt
set_option maxRecDepth 100000
set_option linter.unusedVariables false
set_option linter.unusedSimpArgs false
theorem E0(N:af)(l:List Path)(hl:l.length≤4096)(i:Nat)(hi:i<l.length)(fg:CW→Option PV):cd.run (lx fg) ((i:Int),0,N.stops.map Stop.pv,N.ae.map av.pv,N.runs.map bx.pv,N.ah.map aH.pv,l.map Path.pv,N.ar.map aR.pv,N.aO,N.within,N.cap,.int .i64 l[i].a,.int .i64 l[i].b,.int .i64 l[i].bS,.bool l[i].free,())=if bZ l[i]∈(l.map bZ).take i then some (res i 6)else fg (IntKind.i64.wrap ((i:Int)+1),N.stops.map Stop.pv,N.ae.map av.pv,N.runs.map bx.pv,N.ah.map aH.pv,l.map Path.pv,N.ar.map aR.pv,N.aO,N.within,N.cap,()):=by
 have hm:4096≤maxLen:=by decide
 refine(oZ (fun k=>((i:Int),(k:Int),N.stops.map Stop.pv,N.ae.map av.pv,N.runs.map bx.pv,N.ah.map aH.pv,l.map Path.pv,N.ar.map aR.pv,N.aO,N.within,N.cap,PV.int .i64 l[i].a,PV.int .i64 l[i].b,PV.int .i64 l[i].bS,PV.bool l[i].free,())) i (fun k=>decide ((l.map bZ)[k]?=some (bZ l[i]))) (no:=some (res i 6)) (fin:=fg (IntKind.i64.wrap ((i:Int)+1),N.stops.map Stop.pv,N.ae.map av.pv,N.runs.map bx.pv,N.ah.map aH.pv,l.map Path.pv,N.ar.map aR.pv,N.aO,N.within,N.cap,())) (fun k hk rec=>?_) (fun rec=>?_) ?_ rfl).trans ?_
 ·have h1:decide ((k:Int)<(i:Int))=true:=by simp;omega
  have jE:k<l.length:=by omega
  have hd:decide ((l.map bZ)[k]?=some (bZ l[i]))=(decide (l[k].a=l[i].a)&&decide (l[k].b=l[i].b)&&decide (l[k].free=l[i].free)):=by rw[Bool.eq_iff_iff];simp[List.getElem?_eq_getElem jE,bZ,and_assoc]
  rw[hd];unfold lx;dsimp only;rw[if_pos h1,az,List.getElem?_map,List.getElem?_eq_getElem jE];simp only[Option.map_some,U,G9,Ha,Hb,asInt,asBool,if_true,an (show k<9223372036854775807 by omega),ff,dJ];rfl
 ·unfold lx;dsimp only;rw[if_neg (by simp)]
 ·have:=aS;omega
 ·rw[AE _ _ (by simp;omega)];simp only[decide_eq_true_eq]
theorem OW(N:af)(hn:N.stops.length≤64)(hl:N.paths.length≤4096):jJ [N.pv]=some (res (cX N.paths N.stops.length).1 (cX N.paths N.stops.length).2):=by
 have hm:4096≤maxLen:=by decide
 simp only[jJ,tQ,qL,ry,rz,rA,rB,rC,rD,rE,rF,rG,U];generalize Iy:N.paths=l at hl⊢;generalize N1:N.stops.length=n at hn⊢;have hlen:(N.stops.map Stop.pv).length=n:=by simpa using N1
 have hw:IntKind.i64.wrap ((n:Int)-1)=(n:Int)-1:=fB (by omega) (by omega);have RU:∀k,(hk:k<l.length)→∀rec,fy cd ((k:Int),N.stops.map Stop.pv,N.ae.map av.pv,N.runs.map bx.pv,N.ah.map aH.pv,l.map Path.pv,N.ar.map aR.pv,N.aO,N.within,N.cap,()) rec=da (if du l n k=0 then none else some (some (res k (du l n k)))) (rec (((k+1:Nat):Int),N.stops.map Stop.pv,N.ae.map av.pv,N.runs.map bx.pv,N.ah.map aH.pv,l.map Path.pv,N.ar.map aR.pv,N.aO,N.within,N.cap,())):=by
  intro k hk rec;have h1:decide ((k:Int)<((l.map Path.pv).length:Int))=true:=by simp;omega
  have pT:=E0 N l hl k hk rec;unfold fy;dsimp only;rw[if_pos h1,az,List.getElem?_map,List.getElem?_eq_getElem hk,hlen,hw];simp only[Option.map_some,U,G9,Ha,MW,Hb,asInt,asBool,if_true,Cc,bn,ff,pT,an (show k<9223372036854775807 by omega)];have hA:(!(decide (l[k].a≥0)&&decide (l[k].a≤(n:Int)-1))|| !(decide (l[k].b≥0)&&decide (l[k].b≤(n:Int)-1))||decide (l[k].a=l[k].b))=(decide (l[k].a<0)||decide (l[k].a≥(n:Int))||decide (l[k].b<0)||decide (l[k].b≥(n:Int))||decide (l[k].a=l[k].b)):=by rw[Bool.eq_iff_iff];simp only[Bool.or_eq_true,Bool.not_eq_true',Bool.and_eq_false_iff,decide_eq_true_eq,decide_eq_false_iff_not];omega
  have hB:(!(decide (l[k].bS≥1)&&decide (l[k].bS≤14400)))=(decide (l[k].bS<1)||decide (l[k].bS>14400)):=by rw[Bool.eq_iff_iff];simp only[Bool.or_eq_true,Bool.not_eq_true',Bool.and_eq_false_iff,decide_eq_true_eq,decide_eq_false_iff_not];omega
  rw[hA,hB];unfold du;rw[List.getElem?_eq_getElem hk];simp only;generalize (decide (l[k].a<0)||decide (l[k].a≥(n:Int))||decide (l[k].b<0)||decide (l[k].b≥(n:Int))||decide (l[k].a=l[k].b))=A;generalize (decide (l[k].bS<1)||decide (l[k].bS>14400))=B;by_cases bP:bZ l[k]∈(l.map bZ).take k
  ·simp only[bP,if_true];cases A<;>cases B<;>rfl
  ·simp only[bP,if_false];cases A<;>cases B<;>rfl
 have hg:=il (du l n) l.length (fun i e=>res i e) (some (if lv l n=true then res 0 0 else res 0 18));have hR:some (res (cX l n).1 (cX l n).2)=if(bW (du l n) l.length).2=0 then some (if lv l n=true then res 0 0 else res 0 18)else some (res (bW (du l n) l.length).1 (bW (du l n) l.length).2):=by
  unfold cX;by_cases h:(bW (du l n) l.length).2=0
  ·rw[if_pos h,if_pos h];cases lv l n<;>rfl
  ·rw[if_neg h,if_neg h]
 rw[hR,←hg];by_cases hz:(bW (du l n) l.length).2=0
 ·refine aX (fun k=>((k:Int),N.stops.map Stop.pv,N.ae.map av.pv,N.runs.map bx.pv,N.ah.map aH.pv,l.map Path.pv,N.ar.map aR.pv,N.aO,N.within,N.cap,())) l.length _ RU (fun rec=>?_) ?_ rfl
  ·have hc:=(DP hn hl (Hd hz)).2;have se:=Hf l n hn;unfold fy;dsimp only;rw[if_neg (by simp),hlen,hc];simp only[U,ab,if_true,List.length_map];unfold lv;by_cases RV:(gX l n).length=l.length
   ·rw[if_neg (by simp[kH,RV])];have hr:=mB (gX l n) l RV (some (res 0 18)) (some (res 0 0));have:some (if decide (gX l n=l)=true then res 0 0 else res 0 18)=if gX l n=l then some (res 0 0)else some (res 0 18):=by by_cases hc:gX l n=l<;>simp[hc]
    rw[this,←hr];refine aX (fun k=>((gX l n).map Path.pv,(k:Int),N.stops.map Stop.pv,N.ae.map av.pv,N.runs.map bx.pv,N.ah.map aH.pv,l.map Path.pv,N.ar.map aR.pv,N.aO,N.within,N.cap,())) (gX l n).length _ (fun k hk rec=>?_) (fun rec=>?_) ?_ rfl
    ·have h1:decide ((k:Int)<(((gX l n).map Path.pv).length:Int))=true:=by simp;omega
     have jE:k<l.length:=by omega
     unfold pe;dsimp only;rw[if_pos h1,az,List.getElem?_map,List.getElem?_eq_getElem hk,az,List.getElem?_map,List.getElem?_eq_getElem jE];simp only[Option.map_some,U];rw[if_pos ⟨xq _,xq _⟩,Hg,an (by omega)];by_cases he:(gX l n)[k]=l[k]
     ·simp[he,da]
     ·simp[he,da,res]
    ·unfold pe;dsimp only;rw[if_neg (by simp)];rfl
    ·have:=aS;omega
   ·rw[if_pos (by simp[kH];omega)];rw[decide_eq_false (fun hc=>RV (by rw[hc]))];rfl
  ·have:=aS;omega
 ·have sZ:=aX (body:=fy cd) (fun k=>((k:Int),N.stops.map Stop.pv,N.ae.map av.pv,N.runs.map bx.pv,N.ah.map aH.pv,l.map Path.pv,N.ar.map aR.pv,N.aO,N.within,N.cap,())) l.length _ (fin:=fy cd ((l.length:Int),N.stops.map Stop.pv,N.ae.map av.pv,N.runs.map bx.pv,N.ah.map aH.pv,l.map Path.pv,N.ar.map aR.pv,N.aO,N.within,N.cap,()) fun _=>none) RU (fun rec=>?_) (by have:=aS;omega) (s0:=(0,N.stops.map Stop.pv,N.ae.map av.pv,N.runs.map bx.pv,N.ah.map aH.pv,l.map Path.pv,N.ar.map aR.pv,N.aO,N.within,N.cap,())) rfl
  ·rw[sZ,il,il,if_neg hz,if_neg hz]
  ·unfold fy;dsimp only;rw[if_neg (by simp),if_neg (by simp)]
end Go.Ab.Tt
namespace Go.Ab.Tt
set_option maxRecDepth 100000
set_option linter.unusedVariables false
set_option linter.unusedSimpArgs false
def bf(x:bx):Bytes×Int×Int:=(x.id,x.day,x.inst)
def Hi(x:Bytes×Int×Int):PV:=.agg [.str x.1,.int .i64 x.2.1,.int .i64 x.2.2]
theorem RW(a b:Bytes×Int×Int):cC (Hi a).cells (Hi b).cells=decide (a=b):=by obtain⟨a1,a2,a3⟩:=a;obtain⟨b1,b2,b3⟩:=b;rw[Bool.eq_iff_iff];simp[Hi,PV.cells,cC,peq]
def iZ(l:List bx)(stops ae:Int)(k:Nat):Int:=match l[k]? with
 |none=>0
 |some x=>if eP x.id=false then 12 else if(decide (x.dw< -1)||decide (x.inst<0))=true then 2 else if(decide (x.day<0)||decide (x.day>36524))=true then 11 else if(decide (x.bj<0)||decide (x.bj≥ae))=true then 9 else if(br x.calls stops 0 3155932800).2=0 then(if bf x∈(l.map bf).take k then 6 else 0)else(br x.calls stops 0 3155932800).2
def gg(l:List bx)(stops ae:Int):Int×Int:=if l.length>1024 then(0,5)else bW (iZ l stops ae) l.length
theorem KC(N:af)(l:List bx)(hl:l.length≤maxLen∧∀y∈l,y.Ok)(k:Nat)(hk:k<l.length)(rec:OV→Option PV):fN (l.map bx.pv,(l.length:Int),(k:Int),N.stops.map Stop.pv,N.ae.map av.pv,l.map bx.pv,N.ah.map aH.pv,N.paths.map Path.pv,N.ar.map aR.pv,N.aO,N.within,N.cap,0,0,0,seen Hi ((l.map bf).take k),()) rec=da (if iZ l N.stops.length N.ae.length k=0 then none else some (some (r3 2 k (iZ l N.stops.length N.ae.length k)))) (rec (l.map bx.pv,(l.length:Int),((k+1:Nat):Int),N.stops.map Stop.pv,N.ae.map av.pv,l.map bx.pv,N.ah.map aH.pv,N.paths.map Path.pv,N.ar.map aR.pv,N.aO,N.within,N.cap,0,0,0,seen Hi ((l.map bf).take (k+1)),())):=by
 have hm:=aW;have h1:decide ((k:Int)<(l.length:Int))=true:=by simp;omega
 have hO:=hl.2 _ (List.getElem_mem hk);have hid:=ub l[k].id hO.id;have gB:=nV l[k].calls N.stops.length 0 3155932800 hO.calls.1;simp only[res]at gB;have qw:eR (.agg [.str l[k].id,.int .i64 l[k].day,.int .i64 l[k].inst]) (.bool true) (seen Hi ((l.map bf).take k))=_:=mR RW (bf l[k]) ((l.map bf).take k);have ru:dN (.agg [.str l[k].id,.int .i64 l[k].day,.int .i64 l[k].inst]) (.bool false) (seen Hi ((l.map bf).take k))=_:=kJ RW (bf l[k]) ((l.map bf).take k);unfold fN;dsimp only;rw[if_pos h1,az,List.getElem?_map,List.getElem?_eq_getElem hk];simp only[Option.map_some,U,UC,OR,OS,OT,UD,EY,bB,asInt,asBool,ab,if_true,List.length_map,hid,gB,bV,List.length_cons,List.length_nil,Nat.reduceAdd,List.getD_cons_zero,List.getD_cons_succ,bn,kH,qw,ru,Cg,MX,yJ,wK,Cf,oW bf l k hk,an (show k<9223372036854775807 by omega)];unfold iZ;rw[List.getElem?_eq_getElem hk];simp only;generalize (decide (l[k].dw< -1)||decide (l[k].inst<0))=A;generalize (decide (l[k].day<0)||decide (l[k].day>36524))=B;generalize (decide (l[k].bj<0)||decide (l[k].bj≥(N.ae.length:Int)))=C;generalize (br l[k].calls N.stops.length 0 3155932800).2=e;cases eP l[k].id with
 |false=>rfl
 |true=>
  cases A with
  |true=>rfl
  |false=>
   cases B with
   |true=>rfl
   |false=>
    cases C with
    |true=>rfl
    |false=>
     simp only[Bool.not_true,Bool.false_eq_true,Bool.true_eq_false,if_false];by_cases he:e=0
     ·subst he;by_cases bP:bf l[k]∈(l.map bf).take k
      ·simp only[bP,if_true,decide_true,Bool.not_true,Bool.false_eq_true,if_false];rfl
      ·simp only[bP,if_true,decide_true,decide_false,Bool.not_true,Bool.false_eq_true,if_false];rfl
     ·simp only[he,if_false,if_true,decide_false,Bool.not_false];rfl
theorem E1(N:af)(hl:N.runs.length≤maxLen∧∀y∈N.runs,y.Ok):dq [N.pv]=some (prt 2 (gg N.runs N.stops.length N.ae.length)):=by
 have hm:=aW;simp only[dq,lf,qL,ry,rz,rA,rB,rC,rD,rE,rF,rG,U,List.length_map];generalize Iy:N.runs=l at hl⊢;unfold gg;by_cases s9:l.length>1024
 ·rw[if_pos (by simp;omega),if_pos s9];rfl
 ·rw[if_neg (by simp;omega),if_neg s9];have hR:some (prt 2 (bW (iZ l N.stops.length N.ae.length) l.length))=if(bW (iZ l N.stops.length N.ae.length) l.length).2=0 then some (r3 0 0 0)else some (r3 2 (bW (iZ l N.stops.length N.ae.length) l.length).1 (bW (iZ l N.stops.length N.ae.length) l.length).2):=by
   unfold prt;by_cases h:(bW (iZ l N.stops.length N.ae.length) l.length).2=0
   ·rw[if_pos h,if_pos h]
   ·rw[if_neg h,if_neg h]
  rw[hR,←il (iZ l N.stops.length N.ae.length) l.length (fun i e=>r3 2 i e)];refine aX (fun k=>(l.map bx.pv,(l.length:Int),(k:Int),N.stops.map Stop.pv,N.ae.map av.pv,l.map bx.pv,N.ah.map aH.pv,N.paths.map Path.pv,N.ar.map aR.pv,N.aO,N.within,N.cap,0,0,0,seen Hi ((l.map bf).take k),())) l.length _ (fun k hk rec=>KC N l hl k hk rec) (fun rec=>?_) ?_ rfl
  ·unfold fN;dsimp only;rw[if_neg (by simp)];rfl
  ·have:=aS;omega
theorem KD(N:af)(l:List bx)(hl:l.length≤maxLen)(i:Nat)(hi:i<l.length):cd.run nJ ((i:Int),0,N.stops.map Stop.pv,N.ae.map av.pv,l.map bx.pv,N.ah.map aH.pv,N.paths.map Path.pv,N.ar.map aR.pv,N.aO,N.within,N.cap,.int .i64 l[i].dw,.int .i64 l[i].day,.int .i64 l[i].inst,.str l[i].id,.int .i64 l[i].bj,.bool l[i].free,.bool l[i].pE,.rs 5 (l[i].calls.map aw.pv),())=if bf l[i]∈(l.map bf).take i then some (.int .i64 6)else some (.int .i64 0):=by
 have hm:=aW;refine(oZ (fun k=>((i:Int),(k:Int),N.stops.map Stop.pv,N.ae.map av.pv,l.map bx.pv,N.ah.map aH.pv,N.paths.map Path.pv,N.ar.map aR.pv,N.aO,N.within,N.cap,PV.int .i64 l[i].dw,PV.int .i64 l[i].day,PV.int .i64 l[i].inst,PV.str l[i].id,PV.int .i64 l[i].bj,PV.bool l[i].free,PV.bool l[i].pE,PV.rs 5 (l[i].calls.map aw.pv),())) i (fun k=>decide ((l.map bf)[k]?=some (bf l[i]))) (no:=some (.int .i64 6)) (fin:=some (.int .i64 0)) (fun k hk rec=>?_) (fun rec=>?_) ?_ rfl).trans ?_
 ·have h1:decide ((k:Int)<(i:Int))=true:=by simp;omega
  have jE:k<l.length:=by omega
  have hd:decide ((l.map bf)[k]?=some (bf l[i]))=(decide (l[k].id=l[i].id)&&decide (l[k].day=l[i].day)&&decide (l[k].inst=l[i].inst)):=by rw[Bool.eq_iff_iff];simp[List.getElem?_eq_getElem jE,bf,and_assoc]
  rw[hd];unfold nJ;dsimp only;rw[if_pos h1,az,List.getElem?_map,List.getElem?_eq_getElem jE];simp only[Option.map_some,U,OR,OS,OT,asInt,bB,if_true,an (show k<9223372036854775807 by omega),ff,dJ]
 ·unfold nJ;dsimp only;rw[if_neg (by simp)]
 ·have:=aS;omega
 ·rw[AE _ _ (by simp;omega)];simp only[decide_eq_true_eq]
theorem UE(N:af)(hl:N.runs.length≤maxLen∧∀y∈N.runs,y.Ok)(k:Nat)(hk:k<N.runs.length):mS [N.pv,.int .i64 k]=some (.int .i64 (iZ N.runs N.stops.length N.ae.length k)):=by
 have hm:=aW;have hO:=hl.2 _ (List.getElem_mem hk);simp only[mS,yH,qL,ry,rz,rA,rB,rC,rD,rE,rF,rG,U];generalize Iy:N.runs=l at hl hk hO⊢;have hO':l[k].Ok:=by subst Iy;exact hO
 have hid:=sx l[k].id hO'.id;have gB:=OQ l[k].calls N.stops.length 0 3155932800 hO'.calls.1;have pT:=KD N l hl.1 k hk;simp only[asInt,if_true,U,az,List.getElem?_map,List.getElem?_eq_getElem hk,Option.map_some,UC,OR,OS,OT,UD,XN,XO,EY,bB,asBool,ab,List.length_map,hid,gB,Cc,bn,kH,pT];unfold iZ;rw[List.getElem?_eq_getElem hk];simp only;have hB:(!(decide (l[k].day≥0)&&decide (l[k].day≤36524)))=(decide (l[k].day<0)||decide (l[k].day>36524)):=by rw[Bool.eq_iff_iff];simp only[Bool.or_eq_true,Bool.not_eq_true',Bool.and_eq_false_iff,decide_eq_true_eq,decide_eq_false_iff_not];omega
 rw[hB];generalize (decide (l[k].dw< -1)||decide (l[k].inst<0))=A;generalize (decide (l[k].day<0)||decide (l[k].day>36524))=B;generalize (decide (l[k].bj<0)||decide (l[k].bj≥(N.ae.length:Int)))=C;generalize (br l[k].calls N.stops.length 0 3155932800).2=e;cases eP l[k].id with
 |false=>rfl
 |true=>
  cases A with
  |true=>rfl
  |false=>
   cases B with
   |true=>rfl
   |false=>
    cases C with
    |true=>rfl
    |false=>
     simp only[Bool.not_true,Bool.false_eq_true,Bool.true_eq_false,if_false];by_cases he:e=0
     ·subst he;by_cases bP:bf l[k]∈(l.map bf).take k
      ·simp only[bP,if_true,decide_true,Bool.not_true,Bool.false_eq_true,if_false]
      ·simp only[bP,if_true,decide_true,Bool.not_true,Bool.false_eq_true,if_false]
     ·simp only[he,if_false,if_true,decide_false,Bool.not_false]
end Go.Ab.Tt
namespace Go.Ab.Tt
set_option maxRecDepth 100000
set_option linter.unusedVariables false
set_option linter.unusedSimpArgs false
def nx(p:List aH)(v:Int):Option Int:=p.foldl (fun o x=>if(x.stay&&decide (x.a=v))=true then some x.b else o) none
theorem XP(v:Int):nx [] v=none:=rfl
theorem pW(p:List aH)(x:aH)(v:Int):nx (p++[x]) v=if(x.stay&&decide (x.a=v))=true then some x.b else nx p v:=by unfold nx;rw[List.foldl_append];rfl
def it(f:Int→Option Int):Nat→Int→Option Int
 |0,v=>some v
 |m+1,v=>(f v).bind (it f m)
theorem MZ(f:Int→Option Int)(m:Nat)(v:Int):it f (m+1) v=(it f m v).bind f:=by
 induction m generalizing v with
 |zero=>show(f v).bind (it f 0)=f v;cases h:f v<;>rfl
 |succ m ih=>
  show(f v).bind (it f (m+1))=((f v).bind (it f m)).bind f;cases h:f v with
  |none=>rfl
  |some w=>exact ih w
def ly(p:List aH)(a b:Int)(n:Nat):Bool:=(List.range n).any fun t=>decide (it (nx p) (t+1) a=some b)
def wv(f:Int→Option Int):Prop:=∃r:Int→Nat,∀v w,f v=some w→r w<r v
theorem KE:wv (nx []):=⟨fun _=>0,fun v w h=>by cases h⟩
variable{p:List aH}
theorem KF{v w:Int}(h:nx p v=some w):∃x∈p,x.stay=true∧x.a=v∧x.b=w:=by
 have key:∀n,n≤p.length→nx (p.take n) v=some w→∃x∈p,x.stay=true∧x.a=v∧x.b=w:=by
  intro n;induction n with
  |zero=>intro _ h;cases h
  |succ n ih=>
   intro hn h;have N1:n<p.length:=by omega
   rw[List.take_succ_eq_append_getElem N1,pW]at h;by_cases hc:(p[n].stay&&decide (p[n].a=v))=true
   ·rw[if_pos hc]at h;simp only[Bool.and_eq_true,decide_eq_true_eq]at hc;exact⟨p[n],List.getElem_mem N1,hc.1,hc.2,by simpa using h⟩
   ·rw[if_neg hc]at h;exact ih (by omega) h
 exact key p.length (Nat.le_refl _) (by rw[List.take_length];exact h)
theorem KG{f:Int→Option Int}(hf:wv f)(S:List Int)(hS:∀v w,f v=some w→v∈S):∀m v,it f m v≠none→m≤S.length:=by
 obtain⟨r,hr⟩:=hf;induction hn:S.length generalizing S f r with
 |zero=>
  intro m v h;cases m with
  |zero=>omega
  |succ m=>
   exfalso;cases XQ:f v with
   |none=>exact h (by show(f v).bind _=none;rw[XQ];rfl)
   |some w=>have:=hS v w XQ;rw[List.length_eq_zero_iff.1 hn]at this;cases this
 |succ n ih=>
  intro m v h;cases m with
  |zero=>omega
  |succ m=>
   cases XQ:f v with
   |none=>exact absurd (by show(f v).bind _=none;rw[XQ];rfl) h
   |some w=>
    have hvS:=hS v w XQ;let g:Int→Option Int:=fun x=>if x=v then none else f x;have hg:∀x y,g x=some y→r y<r x:=fun x y UF=>by
     by_cases hx:x=v
     ·simp[g,hx]at UF
     ·simp only[g,hx,if_false]at UF;exact hr x y UF
    have hgS:∀x y,g x=some y→x∈S.erase v:=fun x y UF=>by
     by_cases hx:x=v
     ·simp[g,hx]at UF
     ·simp only[g,hx,if_false]at UF;exact(List.mem_erase_of_ne hx).2 (hS x y UF)
    have hlen:(S.erase v).length=n:=by rw[List.length_erase_of_mem hvS];omega
    have Q9:∀k x,r x<r v→it g k x=it f k x:=by
     intro k;induction k with
     |zero=>intros;rfl
     |succ k WQ=>
      intro x hx;have hxv:x≠v:=fun h=>by subst h;omega
      show(g x).bind (it g k)=(f x).bind (it f k);have:g x=f x:=by simp[g,hxv]
      rw[this];cases hfx:f x with
      |none=>rfl
      |some y=>exact WQ y (by have:=hr x y hfx;omega)
    have hw:it f m w≠none:=by intro hc;apply h;show(f v).bind (it f m)=none;rw[XQ];exact hc
    have:=ih (S.erase v) hgS r hg hlen m w (by rw[Q9 m w (hr v w XQ)];exact hw);omega
theorem E2(hp:wv (nx p)){m:Nat}(hm:p.length<m)(v:Int):it (nx p) m v=none:=by
 cases h:it (nx p) m v with
 |none=>rfl
 |some w=>have:=KG hp (p.map aH.a) (fun x y UF=>by obtain⟨l,h1,h2,h3,h4⟩:=KF UF;exact List.mem_map.2 ⟨l,h1,h3⟩) m v (by rw[h];exact fun h=>nomatch h);rw[List.length_map]at this;omega
theorem Hj(hp:wv (nx p))(x:aH)(h:x.stay=false∨(x.a≠x.b∧nx p x.a=none∧ly p x.b x.a (p.length+1)=false)):wv (nx (p++[x])):=by
 cases hs:x.stay with
 |false=>obtain⟨r,hr⟩:=hp;refine⟨r,fun v w M0=>hr v w ?_⟩;rw[pW,hs,Bool.false_and,if_neg (by simp)]at M0;exact M0
 |true=>
  rw[hs]at h;rcases h with h|⟨qQ,hna,RX⟩
  ·cases h
  have CI:=hp;obtain⟨r,hr⟩:=hp;have yw:∀t,it (nx p) (t+1) x.b≠some x.a:=by
   intro t ht;by_cases bt:t<p.length+1
   ·unfold ly at RX;rw[List.any_eq_false]at RX;exact RX t (by simpa using bt) (by simpa using ht)
   ·rw[E2 CI (by omega)]at ht;cases ht
  let R:Int→Prop:=fun v=>∃t,it (nx p) t v=some x.a;have hRb:¬R x.b:=fun⟨t,ht⟩=>by
   cases t with
   |zero=>exact qQ (by simpa[it]using ht.symm)
   |succ t=>exact yw t ht
  refine⟨fun v=>open Classical in if R v then r v+r x.b+1 else r v,fun v w M0=>?_⟩;rw[pW,hs,Bool.true_and]at M0;by_cases hv:x.a=v
  ·rw[if_pos (by simpa using hv)]at M0;simp only[Option.some.injEq]at M0;subst M0;have Ze:R v:=⟨0,by show some v=some x.a;rw[hv]⟩;show(open Classical in if R x.b then r x.b+r x.b+1 else r x.b)<(open Classical in if R v then r v+r x.b+1 else r v);rw[if_neg hRb,if_pos Ze];omega
  ·rw[if_neg (by simpa using hv)]at M0;have bt:=hr v w M0;show(open Classical in if R w then r w+r x.b+1 else r w)<(open Classical in if R v then r v+r x.b+1 else r v);by_cases hw:R w
   ·have Ze:R v:=by obtain⟨t,ht⟩:=hw;exact⟨t+1,by show(nx p v).bind (it (nx p) t)=some x.a;rw[M0];exact ht⟩
    rw[if_pos hw,if_pos Ze];omega
   ·rw[if_neg hw];by_cases Ze:R v
    ·rw[if_pos Ze];omega
    ·rw[if_neg Ze];exact bt
end Go.Ab.Tt
namespace Go.Ab.Tt
set_option maxRecDepth 100000
set_option linter.unusedVariables false
set_option linter.unusedSimpArgs false
def pX(a:Int):PV:=.int .i64 a
def cn(x:aH):Int×Int×Int×Int:=(x.a,x.ac,x.b,x.bc)
def Hk(x:Int×Int×Int×Int):PV:=.agg [.int .i64 x.1,.int .i64 x.2.1,.int .i64 x.2.2.1,.int .i64 x.2.2.2]
theorem RY(a b:Int×Int×Int×Int):cC (Hk a).cells (Hk b).cells=decide (a=b):=by obtain⟨a1,a2,a3,a4⟩:=a;obtain⟨b1,b2,b3,b4⟩:=b;rw[Bool.eq_iff_iff];simp[Hk,PV.cells,cC,peq]
def vM(p:List aH):List (Int×PV):=p.foldl (fun m x=>if x.stay=true then wx x.a (.int .i64 x.b) m else m) []
theorem wy(p:List aH)(x:aH):vM (p++[x])=if x.stay=true then wx x.a (.int .i64 x.b) (vM p)else vM p:=by unfold vM;rw[List.foldl_append];rfl
def KH(a:Int)(m:List (Int×PV)):Bool:=m.any fun x=>decide (a=x.1)
theorem M1(a:Int):∀m,sS (pX a) (sM pX m)=KH a m
 |[]=>rfl
 |(b,u)::r=>by have:=M1 a r;simp only[sM]at this;simp only[sM,List.map_cons,sS,KH,List.any_cons];rw[this];have:cC (pX a).cells (pX b).cells=decide (a=b):=xr a b;rw[this];rfl
theorem Hl(a b:Int)(v:PV):∀m,KH a (wx b v m)=(decide (a=b)||KH a m)
 |[]=>by simp[KH,wx]
 |(c,u)::r=>by
  have:=Hl a b v r;simp only[KH]at this⊢;by_cases h:b=c
  ·subst h;simp[wx]
  ·simp only[wx,h,if_false,List.any_cons,this];cases decide (a=c)<;>simp
theorem uc{A:Type}{P:List A→Prop}(h0:P [])(h1:∀p x,P p→P (p++[x]))(l:List A):P l:=by
 have key:∀n,n≤l.length→P (l.take n):=by
  intro n;induction n with
  |zero=>intro _;rw[List.take_zero];exact h0
  |succ n ih=>intro hn;rw[List.take_succ_eq_append_getElem (show n<l.length by omega)];exact h1 _ _ (ih (by omega))
 have:=key l.length (Nat.le_refl _);rw[List.take_length]at this;exact this
theorem OX(p:List aH)(v:Int):ud v (.int .i64 0) (vM p)=.int .i64 ((nx p v).getD 0):=by
 induction p using uc with
 |h0=>rfl
 |h1 p x ih=>
  rw[wy,pW];cases hs:x.stay with
  |false=>rw[if_neg (by simp),Bool.false_and,if_neg (by simp)];exact ih
  |true=>
   rw[if_pos rfl,yM,Bool.true_and];by_cases h:x.a=v
   ·rw[if_pos h.symm,if_pos (by simpa using h)];rfl
   ·rw[if_neg (fun hc=>h hc.symm),if_neg (by simpa using h)];exact ih
theorem RZ(p:List aH)(v:Int):KH v (vM p)=(nx p v).isSome:=by
 induction p using uc with
 |h0=>rfl
 |h1 p x ih=>
  rw[wy,pW];cases hs:x.stay with
  |false=>rw[if_neg (by simp),Bool.false_and,if_neg (by simp)];exact ih
  |true=>
   rw[if_pos rfl,Hl,Bool.true_and];by_cases h:x.a=v
   ·rw[if_pos (by simpa using h)];simp[h]
   ·rw[if_neg (by simpa using h),ih];have:decide (v=x.a)=false:=by simpa using fun hc=>h hc.symm
    rw[this,Bool.false_or]
def mT(p:List aH):List (PV×PV):=sM pX (vM p)
theorem wz(p:List aH)(v:Int):dN (.int .i64 v) (.int .i64 0) (mT p)=.int .i64 ((nx p v).getD 0):=by have:=Ci (key:=pX) xr v (.int .i64 0) (vM p);rw[OX]at this;exact this
theorem yN(p:List aH)(v:Int):sS (.int .i64 v) (mT p)=(nx p v).isSome:=by have:=M1 v (vM p);rw[RZ]at this;exact this
theorem KI(p:List aH)(x:aH):mT (p++[x])=if x.stay=true then eR (.int .i64 x.a) (.int .i64 x.b) (mT p)else mT p:=by
 have:=E3 (key:=pX) xr x.a (.int .i64 x.b) (vM p);unfold mT;rw[wy];by_cases h:x.stay=true
 ·rw[if_pos h,if_pos h];exact this.symm
 ·rw[if_neg h,if_neg h]
def jK(p:List aH):List Int:=(p.filter aH.stay).map aH.b
theorem KJ(p:List aH)(x:aH):jK (p++[x])=if x.stay=true then jK p++[x.b]else jK p:=by unfold jK;by_cases h:x.stay=true<;>simp[List.filter_append,List.filter_cons,h]
theorem OY(p:List aH)(v:Int):(nx p v).isSome=p.any fun y=>y.stay&&decide (y.a=v):=by
 induction p using uc with
 |h0=>rfl
 |h1 p x ih=>
  rw[pW,List.any_append,←ih];by_cases h:(x.stay&&decide (x.a=v))=true
  ·rw[if_pos h];simp only[List.any_cons,List.any_nil,h];simp
  ·rw[if_neg h];simp only[List.any_cons,List.any_nil,h];simp
theorem R0(p:List aH)(v:Int):decide (v∈jK p)=p.any fun y=>y.stay&&decide (y.b=v):=by
 rw[Bool.eq_iff_iff,decide_eq_true_eq];simp only[jK,decide_eq_true_eq,List.mem_map,List.mem_filter,List.any_eq_true,Bool.and_eq_true];constructor
 ·rintro⟨x,⟨h1,h2⟩,h3⟩;exact⟨x,h1,h2,h3⟩
 ·rintro⟨x,h1,h2,h3⟩;exact⟨x,⟨h1,h2⟩,h3⟩
def XR(f:Int→Option Int)(a b:Int)(t:Nat):Option (Option PV):=(it f (t+1) a).elim (some (some (.bool false))) fun v=>if v=b then some (some (.bool true))else none
theorem KK(f:Int→Option Int)(b:Int)(n:Nat):∀a,it f (n+1) a=none→da ((List.range n).findSome? (XR f a b)) (some (.bool false))=some (.bool ((List.range (n+1)).any fun t=>decide (it f (t+1) a=some b))):=by
 induction n with
 |zero=>intro a h;simp[da,h]
 |succ n ih=>
  intro a h;rw[List.range_succ_eq_map (n:=n+1),List.range_succ_eq_map (n:=n),List.findSome?_cons,List.any_cons];have h0:it f (0+1) a=f a:=by show(f a).bind (it f 0)=f a;cases hf:f a<;>rfl
  unfold XR;rw[h0];cases hf:f a with
  |none=>
   have hz:∀t,it f (t+1) a=none:=fun t=>by show(f a).bind _=none;rw[hf];rfl
   simp only[Option.elim,da,List.any_map,Function.comp_def,hz];simp
  |some v=>
   have hs:∀t,it f (t+1+1) a=it f (t+1) v:=fun t=>by show(f a).bind _=_;rw[hf];rfl
   by_cases hv:v=b
   ·subst hv;simp only[Option.elim,if_true,da,decide_true,Bool.true_or]
   ·have hd:decide (some v=some b)=false:=by simpa using hv
    simp only[Option.elim,if_neg hv,hd,Bool.false_or];have:=ih v (by rw[←hs];exact h);rw[List.findSome?_map,List.any_map];simp only[Function.comp_def,Nat.succ_eq_add_one,hs];rw[←List.range_succ_eq_map];exact this
theorem KL(p:List aH)(hp:wv (nx p))(hl:p.length≤maxLen)(a b:Int):eW [.rm 3 ((mT p).map fun x=>x.fst) ((mT p).map fun x=>x.snd),.int .i64 a,.int .i64 b]=some (.bool (ly p a b (p.length+1))):=by
 have hz:((mT p).map fun x=>x.fst).zip ((mT p).map fun x=>x.snd)=mT p:=by
  generalize mT p=m;induction m with
  |nil=>rfl
  |cons x m ih=>simp only[List.map_cons,List.zip_cons_cons,ih]
 simp only[eW,qz,dS,if_true,asInt,U,hz,wz,yN];unfold ly;rw[←KK (nx p) b p.length a (E2 hp (by omega) a)];refine aX (fun t=>(PV.rm 3 ((mT p).map fun x=>x.fst) ((mT p).map fun x=>x.snd),b,(it (nx p) (t+1) a).getD 0,(it (nx p) (t+1) a).isSome,())) p.length _ (fun t ht rec=>?_) (fun rec=>?_) (by have:=aS;omega) ?_
 ·unfold jl XR;dsimp only;rw[MZ (nx p) (t+1) a];cases hv:it (nx p) (t+1) a with
  |none=>rfl
  |some v=>
   simp only[Option.isSome_some,Option.getD_some,if_true,ff,decide_eq_true_eq,Option.elim];by_cases UG:v=b
   ·rw[if_pos UG,if_pos UG];rfl
   ·rw[if_neg UG,if_neg UG];simp only[dS,if_true,hz,wz,yN,asInt,U,da,Option.bind_some]
 ·unfold jl;dsimp only;rw[E2 hp (by omega)];rfl
 ·show(_,b,(it (nx p) 1 a).getD 0,(it (nx p) 1 a).isSome,())=_;have:it (nx p) 1 a=nx p a:=by show(nx p a).bind _=_;cases nx p a<;>rfl
  rw[this]
def aC(runs:List bx)(a:Int):List aw:=((runs[a.toNat]?).map bx.calls).getD []
def e8(cs:List aw)(c:Int):Int:=((cs[c.toNat]?).map aw.stop).getD 0
def ue(x:aH)(R:Int):Bool:= !(decide (x.a≥0)&&decide (x.a<R))|| !(decide (x.b≥0)&&decide (x.b<R))||decide (x.a=x.b)
def uf(x:aH)(A B:Int):Bool:= !(decide (x.ac≥0)&&decide (x.ac<A))|| !(decide (x.bc≥0)&&decide (x.bc<B))
def pf(p:List aH)(x:aH)(A:Int):Bool:=x.stay&&(!decide (x.ac+1=A)|| !decide (x.bc=0)||(nx p x.a).isSome||decide (x.b∈jK p)||ly p x.b x.a (p.length+1))
def cE(runs:List bx)(l:List aH)(k:Nat):Int:=match l[k]? with
 |none=>0
 |some x=>if ue x runs.length=true then 9 else if uf x (aC runs x.a).length (aC runs x.b).length=true then 9 else if e8 (aC runs x.a) x.ac≠e8 (aC runs x.b) x.bc then 13 else if pf (l.take k) x (aC runs x.a).length=true then 19 else if cn x∈(l.map cn).take k then 6 else 0
def gY(runs:List bx)(l:List aH):Int×Int:=if l.length>1024 then(0,5)else bW (cE runs l) l.length
theorem Cj(runs:List bx)(l:List aH)(k:Nat)(hk:k≤l.length)(h:∀j,j<k→cE runs l j=0):wv (nx (l.take k))∧∀x∈l.take k,0≤x.a:=by
 induction k with
 |zero=>rw[List.take_zero];exact⟨KE,fun x hx=>by cases hx⟩
 |succ k ih=>
  have jE:k<l.length:=by omega
  obtain⟨h1,h2⟩:=ih (by omega) fun j hj=>h j (by omega);have hz:=h k (by omega);unfold cE at hz;rw[List.getElem?_eq_getElem jE]at hz;simp only at hz;have hr:ue l[k] runs.length=false:=by
   cases hr:ue l[k] runs.length with
   |false=>rfl
   |true=>rw[hr,if_pos rfl]at hz;cases hz
  have hs:pf (l.take k) l[k] (aC runs l[k].a).length=false:=by
   cases hs:pf (l.take k) l[k] (aC runs l[k].a).length with
   |false=>rfl
   |true=>
    rw[hs]at hz;split at hz
    ·cases hz
    ·split at hz
     ·cases hz
     ·split at hz
      ·cases hz
      ·rw[if_pos rfl]at hz;cases hz
  unfold ue at hr;simp only[Bool.or_eq_false_iff,Bool.not_eq_false',Bool.and_eq_true,decide_eq_true_eq,decide_eq_false_iff_not]at hr;rw[List.take_succ_eq_append_getElem jE];refine⟨Hj h1 l[k] ?_,fun x hx=>?_⟩
  ·unfold pf at hs;cases sZ:l[k].stay with
   |false=>exact Or.inl rfl
   |true=>
    rw[sZ,Bool.true_and]at hs;simp only[Bool.or_eq_false_iff]at hs;refine Or.inr ⟨hr.2,?_,hs.2⟩;have:=hs.1.1.2;cases hn:nx (l.take k) l[k].a with
    |none=>rfl
    |some w=>rw[hn]at this;cases this
  ·rcases List.mem_append.1 hx with hx|hx
   ·exact h2 x hx
   ·rw[List.mem_singleton]at hx;subst hx;exact hr.1.1.1
theorem xt(runs:List bx)(a:Int)(h:0≤a∧a<(runs.length:Int)):∃r∈runs,ba (runs.map bx.pv) a=some r.pv∧aC runs a=r.calls:=by
 obtain⟨n,rfl⟩:=Int.eq_ofNat_of_zero_le h.1;have hn:n<runs.length:=by omega
 refine⟨runs[n],List.getElem_mem hn,?_,?_⟩
 ·rw[az,List.getElem?_map,List.getElem?_eq_getElem hn];rfl
 ·unfold aC;rw[Int.toNat_natCast,List.getElem?_eq_getElem hn];rfl
theorem vc(cs:List aw)(c:Int)(h:0≤c∧c<(cs.length:Int)):∃r,ba (cs.map aw.pv) c=some r∧cell r 0=.int .i64 (e8 cs c):=by
 obtain⟨n,rfl⟩:=Int.eq_ofNat_of_zero_le h.1;have hn:n<cs.length:=by omega
 refine⟨cs[n].pv,?_,?_⟩
 ·rw[az,List.getElem?_map,List.getElem?_eq_getElem hn];rfl
 ·unfold e8;rw[Int.toNat_natCast,List.getElem?_eq_getElem hn];rfl
end Go.Ab.Tt
namespace Go.Ab.Tt
set_option maxRecDepth 100000
set_option linter.unusedVariables false
set_option linter.unusedSimpArgs false
theorem ug{runs:List bx}(h:∀y∈runs,y.Ok)(a:Int):(aC runs a).length≤maxLen:=by
 unfold aC;cases hr:runs[a.toNat]? with
 |none=>simp
 |some r=>exact(h r (List.mem_of_getElem? hr)).calls.1
theorem Hm(N:af)(runs:List bx)(hr:∀y∈runs,y.Ok)(l:List aH)(hl:l.length≤maxLen)(k:Nat)(hk:k<l.length)(Ak:∀j,j<k→cE runs l j=0)(rec:TY0→Option PV):fC (l.map aH.pv,(l.length:Int),(k:Int),N.stops.map Stop.pv,N.ae.map av.pv,runs.map bx.pv,l.map aH.pv,N.paths.map Path.pv,N.ar.map aR.pv,N.aO,N.within,N.cap,0,0,0,mT (l.take k),seen pX (jK (l.take k)),seen Hk ((l.map cn).take k),()) rec=da (if cE runs l k=0 then none else some (some (r3 3 k (cE runs l k)))) (rec (l.map aH.pv,(l.length:Int),((k+1:Nat):Int),N.stops.map Stop.pv,N.ae.map av.pv,runs.map bx.pv,l.map aH.pv,N.paths.map Path.pv,N.ar.map aR.pv,N.aO,N.within,N.cap,0,0,0,mT (l.take (k+1)),seen pX (jK (l.take (k+1))),seen Hk ((l.map cn).take (k+1)),())):=by
 have hm:=aW;have h1:decide ((k:Int)<(l.length:Int))=true:=by simp;omega
 obtain⟨aaD,_⟩:=Cj runs l k (by omega) Ak;have hlen:(l.take k).length=k:=by simp;omega
 have yO:=KL (l.take k) aaD (by omega) l[k].b l[k].a;have qw:eR (.agg [.int .i64 l[k].a,.int .i64 l[k].ac,.int .i64 l[k].b,.int .i64 l[k].bc]) (.bool true) (seen Hk ((l.map cn).take k))=_:=mR RY (cn l[k]) ((l.map cn).take k);have ru:dN (.agg [.int .i64 l[k].a,.int .i64 l[k].ac,.int .i64 l[k].b,.int .i64 l[k].bc]) (.bool false) (seen Hk ((l.map cn).take k))=_:=kJ RY (cn l[k]) ((l.map cn).take k);have aaE:eR (.int .i64 l[k].b) (.bool true) (seen pX (jK (l.take k)))=_:=mR (key:=pX) xr l[k].b (jK (l.take k));have XS:dN (.int .i64 l[k].b) (.bool false) (seen pX (jK (l.take k)))=_:=kJ (key:=pX) xr l[k].b (jK (l.take k));have hsn:l.take (k+1)=l.take k++[l[k]]:=List.take_succ_eq_append_getElem hk;unfold fC;dsimp only;rw[if_pos h1,az,List.getElem?_map,List.getElem?_eq_getElem hk,hsn,KI,KJ,oW cn l k hk];simp only[Option.map_some,U,DO,MU,link2,MV,G8,asInt,asBool,if_true,List.length_map,wu,bn,ff];unfold cE;rw[List.getElem?_eq_getElem hk];simp only;have hR:(!(decide (l[k].a≥0)&&decide (l[k].a<(runs.length:Int)))|| !(decide (l[k].b≥0)&&decide (l[k].b<(runs.length:Int)))||decide (l[k].a=l[k].b))=ue l[k] runs.length:=rfl;rw[hR];cases hb:ue l[k] runs.length with
 |true=>simp only[if_true,Cg,U,MX,yJ,wK,Cf];rfl
 |false=>
  unfold ue at hb;simp only[Bool.or_eq_false_iff,Bool.not_eq_false',Bool.and_eq_true,decide_eq_true_eq,decide_eq_false_iff_not]at hb;obtain⟨ra,hra,hia,W0⟩:=xt runs l[k].a ⟨hb.1.1.1,hb.1.1.2⟩;obtain⟨rb,IE,VB,OZ⟩:=xt runs l[k].b ⟨hb.1.2.1,hb.1.2.2⟩;have hA:=ug hr l[k].a;rw[hia,VB];simp only[U,EY,ab,if_true,List.length_map,←W0,←OZ,wu,asBool,bn];have hC:(!(decide (l[k].ac≥0)&&decide (l[k].ac<((aC runs l[k].a).length:Int)))|| !(decide (l[k].bc≥0)&&decide (l[k].bc<((aC runs l[k].b).length:Int))))=uf l[k] (aC runs l[k].a).length (aC runs l[k].b).length:=rfl;rw[hC];cases B7:uf l[k] (aC runs l[k].a).length (aC runs l[k].b).length with
  |true=>simp only[if_true,Cg,U,MX,yJ,wK,Cf];rfl
  |false=>
   unfold uf at B7;simp only[Bool.or_eq_false_iff,Bool.not_eq_false',Bool.and_eq_true,decide_eq_true_eq]at B7;obtain⟨ka,WW,hsa⟩:=vc (aC runs l[k].a) l[k].ac B7.1;obtain⟨kb,hkb,W2⟩:=vc (aC runs l[k].b) l[k].bc B7.2;have hw:IntKind.i64.wrap (l[k].ac+1)=l[k].ac+1:=fB (by omega) (by omega);simp only[Bool.false_eq_true,if_false,WW,hkb,U,hsa,W2,wz,yN,ru,XS,qw,aaE,asInt,asBool,if_true,yO,hw,hlen,bn,dJ,kH,Cg,MX,yJ,wK,Cf,an (show k<9223372036854775807 by omega)];have hS:(l[k].stay&&(!decide (l[k].ac+1=((aC runs l[k].a).length:Int))|| !decide (l[k].bc=0)||(nx (l.take k) l[k].a).isSome||decide (l[k].b∈jK (l.take k))||ly (l.take k) l[k].b l[k].a (k+1)))=pf (l.take k) l[k] (aC runs l[k].a).length:=by unfold pf;rw[hlen]
   rw[hS];generalize pf (l.take k) l[k] (aC runs l[k].a).length=S;by_cases sZ:e8 (aC runs l[k].a) l[k].ac=e8 (aC runs l[k].b) l[k].bc
   ·simp only[sZ,decide_true,Bool.not_true,Bool.false_eq_true,if_false,ne_eq,not_true];cases S with
    |true=>rfl
    |false=>
     by_cases bP:cn l[k]∈(l.map cn).take k
     ·simp only[bP,decide_true,if_true,Bool.false_eq_true,if_false];rfl
     ·simp only[bP,decide_false,if_true,Bool.false_eq_true,if_false];cases l[k].stay<;>rfl
   ·simp only[sZ,decide_false,Bool.not_false,if_true,ne_eq,not_false_eq_true];rfl
theorem CX(N:af)(hr:N.runs.length≤maxLen∧∀y∈N.runs,y.Ok)(hl:N.ah.length≤maxLen):cw [N.pv]=some (prt 3 (gY N.runs N.ah)):=by
 have hm:=aW;simp only[cw,kh,qL,ry,rz,rA,rB,rC,rD,rE,rF,rG,U,List.length_map];generalize Iy:N.ah=l at hl⊢;generalize qP:N.runs=runs at hr⊢;unfold gY;by_cases s9:l.length>1024
 ·rw[if_pos (by simp;omega),if_pos s9];rfl
 ·rw[if_neg (by simp;omega),if_neg s9];have hR:some (prt 3 (bW (cE runs l) l.length))=if(bW (cE runs l) l.length).2=0 then some (r3 0 0 0)else some (r3 3 (bW (cE runs l) l.length).1 (bW (cE runs l) l.length).2):=by
   unfold prt;by_cases h:(bW (cE runs l) l.length).2=0
   ·rw[if_pos h,if_pos h]
   ·rw[if_neg h,if_neg h]
  rw[hR,←il (cE runs l) l.length (fun i e=>r3 3 i e)];refine vL (fun k=>(l.map aH.pv,(l.length:Int),(k:Int),N.stops.map Stop.pv,N.ae.map av.pv,runs.map bx.pv,l.map aH.pv,N.paths.map Path.pv,N.ar.map aR.pv,N.aO,N.within,N.cap,0,0,0,mT (l.take k),seen pX (jK (l.take k)),seen Hk ((l.map cn).take k),())) l.length _ (fun k hk Ak rec=>Hm N runs hr.2 l hl k hk (fun j hj=>?_) rec) (fun _ rec=>?_) (by have:=aS;omega) rfl
  ·have:=Ak j hj;by_cases h0:cE runs l j=0
   ·exact h0
   ·rw[if_neg h0]at this;cases this
  ·unfold fC;dsimp only;rw[if_neg (by simp)];rfl
theorem O0(N:af)(i:Nat)(hi:i<N.ah.length)(hl:N.ah.length≤maxLen)(hp:∀x∈N.ah.take i,0≤x.a)(a b:Int)(hb:0≤b):jL [N.pv,.int .i64 i,.int .i64 a,.int .i64 b]=some (.bool (ly (N.ah.take i) a b (i+1))):=by
 have hm:=aW;simp only[jL,tP,qL,ry,rz,rA,rB,rC,rD,rE,rF,rG,U];simp only[asInt,if_true,U];generalize Iy:N.ah=l at hl hi hp⊢;have aez:nx (l.take i) (-1)=none:=by
  cases hn:nx (l.take i) (-1)with
  |none=>rfl
  |some w=>obtain⟨x,hx,_,hxa,_⟩:=KF hn;have:=hp x hx;omega
 have tq:∀t,(nx (l.take i) ((it (nx (l.take i)) t a).getD (-1))).getD (-1)=(it (nx (l.take i)) (t+1) a).getD (-1):=by
  intro t;rw[MZ];cases it (nx (l.take i)) t a with
  |none=>simp only[Option.getD_none,Option.bind_none,aez]
  |some v=>rfl
 have pT:∀(c:Int)(t:Nat)fg,cd.run (lz fg) ((i:Int),c,b,(t:Int),-1,0,N.stops.map Stop.pv,N.ae.map av.pv,N.runs.map bx.pv,l.map aH.pv,N.paths.map Path.pv,N.ar.map aR.pv,N.aO,N.within,N.cap,())=if(nx (l.take i) c).getD (-1)=b then some (.bool true)else fg ((i:Int),(nx (l.take i) c).getD (-1),b,IntKind.i64.wrap ((t:Int)+1),N.stops.map Stop.pv,N.ae.map av.pv,N.runs.map bx.pv,l.map aH.pv,N.paths.map Path.pv,N.ar.map aR.pv,N.aO,N.within,N.cap,()):=by
  intro c t fg;refine bM (fun k=>((i:Int),c,b,(t:Int),(nx (l.take k) c).getD (-1),(k:Int),N.stops.map Stop.pv,N.ae.map av.pv,N.runs.map bx.pv,l.map aH.pv,N.paths.map Path.pv,N.ar.map aR.pv,N.aO,N.within,N.cap,())) i (fun k hk rec=>?_) (fun rec=>?_) (by have:=aS;omega) (by rw[List.take_zero,XP];rfl)
  ·have h1:decide ((k:Int)<(i:Int))=true:=by simp;omega
   have jE:k<l.length:=by omega
   unfold lz;dsimp only;rw[if_pos h1,az,List.getElem?_map,List.getElem?_eq_getElem jE,List.take_succ_eq_append_getElem jE,pW];simp only[Option.map_some,U,DO,link2,G8,asInt,asBool,if_true,dJ,ff,an (show k<9223372036854775807 by omega)];by_cases hc:(l[k].stay&&decide (l[k].a=c))=true
   ·rw[if_pos hc,if_pos hc];rfl
   ·rw[if_neg hc,if_neg hc]
  ·unfold lz;dsimp only;rw[if_neg (by simp)];simp only[ff,decide_eq_true_eq]
 unfold ly;have l6:cd.run (lA cd) ((i:Int),a,b,0,N.stops.map Stop.pv,N.ae.map av.pv,N.runs.map bx.pv,l.map aH.pv,N.paths.map Path.pv,N.ar.map aR.pv,N.aO,N.within,N.cap,())=if((List.range (i+1)).any fun t=>decide (it (nx (l.take i)) (t+1) a=some b))=true then some (PV.bool true)else some (PV.bool false):=by
  refine oZ (fun t:Nat=>((i:Int),(it (nx (l.take i)) t a).getD (-1),b,(t:Int),N.stops.map Stop.pv,N.ae.map av.pv,N.runs.map bx.pv,l.map aH.pv,N.paths.map Path.pv,N.ar.map aR.pv,N.aO,N.within,N.cap,())) (i+1) (fun t=>decide (it (nx (l.take i)) (t+1) a=some b)) (no:=some (PV.bool true)) (fin:=some (PV.bool false)) (fun t ht rec=>?_) (fun rec=>?_) (by have:=aS;omega) rfl
  ·have h1:decide ((t:Int)≤(i:Int))=true:=by simp;omega
   unfold lA;dsimp only;rw[if_pos h1,pT,tq,an (by omega)];cases hv:it (nx (l.take i)) (t+1) a with
   |none=>rw[if_neg (by simp only[Option.getD_none];omega),if_neg (by simp)]
   |some v=>
    by_cases UG:v=b
    ·rw[if_pos (by simpa using UG),if_pos (by simpa using UG)]
    ·rw[if_neg (by simpa using UG),if_neg (by simpa using UG)]
  ·unfold lA;dsimp only;rw[if_neg (by simp;omega)]
 rw[l6];cases(List.range (i+1)).any fun t=>decide (it (nx (l.take i)) (t+1) a=some b)<;>rfl
theorem O1(l:List aH)(P:aH→Bool)(k:Nat)(hk:k≤l.length):((List.range k).any fun j=>(l[j]?).elim false P)=(l.take k).any P:=by
 induction k with
 |zero=>rfl
 |succ k ih=>
  have jE:k<l.length:=by omega
  rw[List.range_succ,List.any_append,ih (by omega),List.take_succ_eq_append_getElem jE,List.any_append];simp only[List.any_cons,List.any_nil,List.getElem?_eq_getElem jE,Option.elim]
theorem R1(N:af)(hr:N.runs.length≤maxLen∧∀y∈N.runs,y.Ok)(hl:N.ah.length≤maxLen)(k:Nat)(hk:k<N.ah.length)(Ak:∀j,j<k→cE N.runs N.ah j=0):lB [N.pv,.int .i64 k]=some (.int .i64 (cE N.runs N.ah k)):=by
 have hm:=aW;obtain⟨_,eu⟩:=Cj N.runs N.ah k (by omega) Ak;have yO:=fun a b hb=>O0 N k hk hl eu a b hb;have hE:=yI N;simp only[lB,wk,qL,ry,rz,rA,rB,rC,rD,rE,rF,rG,U];rw[←yI N]at yO;generalize Iy:N.ah=l at hl hk eu yO⊢;generalize qP:N.runs=runs at hr yO⊢;have hw0:IntKind.i64.wrap ((runs.length:Int)-1)=(runs.length:Int)-1:=fB (by omega) (by omega);simp only[asInt,if_true,U,az,List.getElem?_map,List.getElem?_eq_getElem hk,Option.map_some,DO,MU,link2,MV,G8,asBool,List.length_map,hw0,Cc,bn,ff];unfold cE;rw[List.getElem?_eq_getElem hk];simp only;have hR:(!(decide (l[k].a≥0)&&decide (l[k].a≤(runs.length:Int)-1))|| !(decide (l[k].b≥0)&&decide (l[k].b≤(runs.length:Int)-1))||decide (l[k].a=l[k].b))=ue l[k] runs.length:=by unfold ue;rw[Bool.eq_iff_iff];simp only[Bool.or_eq_true,Bool.not_eq_true',Bool.and_eq_false_iff,decide_eq_true_eq,decide_eq_false_iff_not];omega
 rw[hR];cases hb:ue l[k] runs.length with
 |true=>simp only[if_true]
 |false=>
  unfold ue at hb;simp only[Bool.or_eq_false_iff,Bool.not_eq_false',Bool.and_eq_true,decide_eq_true_eq,decide_eq_false_iff_not]at hb;obtain⟨ra,hra,hia,W0⟩:=xt runs l[k].a ⟨hb.1.1.1,hb.1.1.2⟩;obtain⟨rb,IE,VB,OZ⟩:=xt runs l[k].b ⟨hb.1.2.1,hb.1.2.2⟩;have hA:=ug hr.2 l[k].a;have hB:=ug hr.2 l[k].b;rw[hia,VB];simp only[U,EY,ab,if_true,List.length_map,←W0,←OZ];have hwA:IntKind.i64.wrap (((aC runs l[k].a).length:Int)-1)=((aC runs l[k].a).length:Int)-1:=fB (by omega) (by omega);have hwB:IntKind.i64.wrap (((aC runs l[k].b).length:Int)-1)=((aC runs l[k].b).length:Int)-1:=fB (by omega) (by omega);simp only[hwA,hwB,Cc,asBool,U,bn];have hC:(!(decide (l[k].ac≥0)&&decide (l[k].ac≤((aC runs l[k].a).length:Int)-1))|| !(decide (l[k].bc≥0)&&decide (l[k].bc≤((aC runs l[k].b).length:Int)-1)))=uf l[k] (aC runs l[k].a).length (aC runs l[k].b).length:=by unfold uf;rw[Bool.eq_iff_iff];simp only[Bool.or_eq_true,Bool.not_eq_true',Bool.and_eq_false_iff,decide_eq_true_eq,decide_eq_false_iff_not];omega
  rw[hC];cases B7:uf l[k] (aC runs l[k].a).length (aC runs l[k].b).length with
  |true=>simp only[if_true,Bool.false_eq_true,if_false]
  |false=>
   unfold uf at B7;simp only[Bool.or_eq_false_iff,Bool.not_eq_false',Bool.and_eq_true,decide_eq_true_eq]at B7;obtain⟨ka,WW,hsa⟩:=vc (aC runs l[k].a) l[k].ac B7.1;obtain⟨kb,hkb,W2⟩:=vc (aC runs l[k].b) l[k].bc B7.2;simp only[Bool.false_eq_true,if_false,WW,hkb,U,hsa,W2,asInt,asBool,if_true,bn,dJ,kH];by_cases sZ:e8 (aC runs l[k].a) l[k].ac=e8 (aC runs l[k].b) l[k].bc
   ·simp only[sZ,decide_true,Bool.not_true,Bool.false_eq_true,if_false,ne_eq,not_true];have V1:cd.run mC ((k:Int),0,N.stops.map Stop.pv,N.ae.map av.pv,runs.map bx.pv,l.map aH.pv,N.paths.map Path.pv,N.ar.map aR.pv,N.aO,N.within,N.cap,.int .i64 l[k].a,.int .i64 l[k].ac,.int .i64 l[k].b,.int .i64 l[k].bc,.bool l[k].stay,())=if cn l[k]∈(l.map cn).take k then some (.int .i64 6)else some (.int .i64 0):=by
     refine(oZ (fun j=>((k:Int),(j:Int),N.stops.map Stop.pv,N.ae.map av.pv,runs.map bx.pv,l.map aH.pv,N.paths.map Path.pv,N.ar.map aR.pv,N.aO,N.within,N.cap,PV.int .i64 l[k].a,PV.int .i64 l[k].ac,PV.int .i64 l[k].b,PV.int .i64 l[k].bc,PV.bool l[k].stay,())) k (fun j=>decide ((l.map cn)[j]?=some (cn l[k]))) (no:=some (.int .i64 6)) (fin:=some (.int .i64 0)) (fun j hj rec=>?_) (fun rec=>?_) (by have:=aS;omega) rfl).trans ?_
     ·have h1:decide ((j:Int)<(k:Int))=true:=by simp;omega
      have FZ:j<l.length:=by omega
      have hd:decide ((l.map cn)[j]?=some (cn l[k]))=(decide (l[j].a=l[k].a)&&decide (l[j].ac=l[k].ac)&&decide (l[j].b=l[k].b)&&decide (l[j].bc=l[k].bc)):=by rw[Bool.eq_iff_iff];simp[List.getElem?_eq_getElem FZ,cn,and_assoc]
      rw[hd];unfold mC;dsimp only;rw[if_pos h1,az,List.getElem?_map,List.getElem?_eq_getElem FZ];simp only[Option.map_some,U,DO,MU,link2,MV,asInt,if_true,an (show j<9223372036854775807 by omega),ff,dJ]
     ·unfold mC;dsimp only;rw[if_neg (by simp)]
     ·rw[AE _ _ (by simp;omega)];simp only[decide_eq_true_eq]
    have aeA:cd.run (mD cd) ((k:Int),0,N.stops.map Stop.pv,N.ae.map av.pv,runs.map bx.pv,l.map aH.pv,N.paths.map Path.pv,N.ar.map aR.pv,N.aO,N.within,N.cap,.int .i64 l[k].a,.int .i64 l[k].ac,.int .i64 l[k].b,.int .i64 l[k].bc,.bool l[k].stay,())=if(l[k].stay&&((nx (l.take k) l[k].a).isSome||decide (l[k].b∈jK (l.take k))))=true then some (.int .i64 19)else if(l[k].stay&&ly (l.take k) l[k].b l[k].a (k+1))=true then some (.int .i64 19)else if cn l[k]∈(l.map cn).take k then some (.int .i64 6)else some (.int .i64 0):=by
     refine(oZ (fun j=>((k:Int),(j:Int),N.stops.map Stop.pv,N.ae.map av.pv,runs.map bx.pv,l.map aH.pv,N.paths.map Path.pv,N.ar.map aR.pv,N.aO,N.within,N.cap,PV.int .i64 l[k].a,PV.int .i64 l[k].ac,PV.int .i64 l[k].b,PV.int .i64 l[k].bc,PV.bool l[k].stay,())) k (fun j=>(l[j]?).elim false fun y=>l[k].stay&&y.stay&&(decide (y.a=l[k].a)||decide (y.b=l[k].b))) (no:=some (.int .i64 19)) (fin:=if(l[k].stay&&ly (l.take k) l[k].b l[k].a (k+1))=true then some (.int .i64 19)else if cn l[k]∈(l.map cn).take k then some (.int .i64 6)else some (.int .i64 0)) (fun j hj rec=>?_) (fun rec=>?_) (by have:=aS;omega) rfl).trans ?_
     ·have h1:decide ((j:Int)<(k:Int))=true:=by simp;omega
      have FZ:j<l.length:=by omega
      rw[List.getElem?_eq_getElem FZ];unfold mD;dsimp only;rw[if_pos h1,az,List.getElem?_map,List.getElem?_eq_getElem FZ];simp only[Option.map_some,U,DO,link2,G8,asInt,asBool,if_true,an (show j<9223372036854775807 by omega),ff,dJ,bn,Option.elim];rfl
     ·unfold mD;dsimp only;rw[if_neg (by simp),V1];have:=yO l[k].b l[k].a (by have:=hb.1.1.1;omega);simp only[asBool,asInt,if_true,U,this,dJ]
     ·rw[O1 l _ k (by omega)];have Xp:((l.take k).any fun y=>l[k].stay&&y.stay&&(decide (y.a=l[k].a)||decide (y.b=l[k].b)))=(l[k].stay&&((nx (l.take k) l[k].a).isSome||decide (l[k].b∈jK (l.take k)))):=by
       rw[OY,R0];cases l[k].stay with
       |false=>simp
       |true=>
        rw[Bool.eq_iff_iff];simp only[Bool.true_and,Bool.or_eq_true,List.any_eq_true,Bool.and_eq_true,decide_eq_true_eq];constructor
        ·rintro⟨x,h1,h2,h3|h3⟩
         ·exact Or.inl ⟨x,h1,h2,h3⟩
         ·exact Or.inr ⟨x,h1,h2,h3⟩
        ·rintro(⟨x,h1,h2,h3⟩|⟨x,h1,h2,h3⟩)
         ·exact⟨x,h1,h2,Or.inl h3⟩
         ·exact⟨x,h1,h2,Or.inr h3⟩
      rw[Xp]
    rw[aeA];have hlen:(l.take k).length=k:=by simp;omega
    have hac:decide (l[k].ac=((aC runs l[k].a).length:Int)-1)=decide (l[k].ac+1=((aC runs l[k].a).length:Int)):=by rw[Bool.eq_iff_iff];simp only[decide_eq_true_eq];omega
    rw[hac];unfold pf;rw[hlen];generalize (!decide (l[k].ac+1=((aC runs l[k].a).length:Int)))=X1;generalize (!decide (l[k].bc=0))=X2;generalize (nx (l.take k) l[k].a).isSome=X3;generalize decide (l[k].b∈jK (l.take k))=X4;generalize ly (l.take k) l[k].b l[k].a (k+1)=X5;by_cases bP:cn l[k]∈(l.map cn).take k
    ·simp only[bP,if_true];cases l[k].stay<;>cases X1<;>cases X2<;>cases X3<;>cases X4<;>cases X5<;>rfl
    ·simp only[bP,if_false];cases l[k].stay<;>cases X1<;>cases X2<;>cases X3<;>cases X4<;>cases X5<;>rfl
   ·simp only[sZ,decide_false,Bool.not_false,if_true,ne_eq,not_false_eq_true,Bool.false_eq_true,if_false]
end Go.Ab.Tt
namespace Go.Ab.Tt
set_option maxRecDepth 100000
set_option linter.unusedVariables false
set_option linter.unusedSimpArgs false
def dD(N:af):Int×Int×Int:=
 if(gQ N.stops).2=0 then
  if(fv N.ae).2=0 then
   if(gg N.runs N.stops.length N.ae.length).2=0 then
    if(gY N.runs N.ah).2=0 then
     if(cX N.paths N.stops.length).2=0 then if(dK N.ar N.aO N.within N.cap).2=0 then(0,0,0)else(5,dK N.ar N.aO N.within N.cap)
     else(4,cX N.paths N.stops.length)
    else(3,gY N.runs N.ah)
   else(2,gg N.runs N.stops.length N.ae.length)
  else(1,fv N.ae)
 else(0,gQ N.stops)
def fZ(x:Int×Int×Int):PV:=.bl [.int .i64 x.1,.int .i64 x.2.1,.int .i64 x.2.2]
theorem r3E(p i e:Int):PV.agg [cell (r3 p i e) 0,cell (r3 p i e) 1,cell (r3 p i e) 2]=r3 p i e:=rfl
theorem V2(p i e:Int):PV.agg [.int .i64 p,.int .i64 i,.int .i64 e]=r3 p i e:=rfl
theorem uh(p i e q j f:Int):cM [.rs 3 [r3 p i e,r3 q j f]]=some (if e=0 then(if f=0 then r3 0 0 0 else r3 q j f)else r3 p i e):=by
 simp only[cM,qH,ab,if_true,U];have h0:=aX (body:=gr) (fun k=>([r3 p i e,r3 q j f],(2:Int),(k:Int),0,0,0,())) 2 (fun k=>if k=0 then(if e=0 then none else some (some (r3 p i e)))else(if f=0 then none else some (some (r3 q j f)))) (fin:=some (r3 0 0 0)) (fun k hk rec=>?_) (fun rec=>?_) (by decide) (s0:=([r3 p i e,r3 q j f],(2:Int),0,0,0,0,())) rfl
 ·refine h0.trans ?_;have:List.range 2=[0,1]:=rfl;rw[this];by_cases he:e=0
  ·by_cases hf:f=0<;>simp[he,hf,da]
  ·simp[he,da]
 ·have h2:k=0∨k=1:=by omega
  rcases h2 with rfl|rfl
  ·unfold gr;dsimp only;rw[if_pos (by simp),az];simp only[List.getElem?_cons_zero,U,Cf,asInt,if_true,kH,r3E,an (show 0<9223372036854775807 by omega)];by_cases he:e=0
   ·simp only[he,decide_true,Bool.not_true,Bool.false_eq_true,if_false,if_true];rfl
   ·simp only[he,decide_false,Bool.not_false,if_false,if_true];rfl
  ·unfold gr;dsimp only;rw[if_pos (by simp),az];simp only[List.getElem?_cons_succ,List.getElem?_cons_zero,U,Cf,asInt,if_true,kH,r3E,an (show 1<9223372036854775807 by omega)];by_cases he:f=0
   ·simp only[he,decide_true,Bool.not_true,Bool.false_eq_true,if_false,if_true];rfl
   ·simp only[he,decide_false,Bool.not_false,if_false,if_true];rfl
 ·unfold gr;dsimp only;rw[if_neg (by simp)];rfl
theorem KM(p:Int)(x:Int×Int):prt p x=if x.2=0 then r3 0 0 0 else r3 p x.1 x.2:=rfl
theorem yP{l:List Stop}(h:(gQ l).2=0):l.length≤64:=by
 unfold gQ at h;by_cases s9:l.length>64
 ·rw[if_pos s9]at h;cases h
 ·omega
theorem zO(a b:Int):(a==b)=decide (a=b):=ff a b
theorem Ck(N:af)(h:N.Ok)(hp:N.paths.length≤4096):ec [N.pv]=some (fZ (dD N)):=by
 have hs:=ON N.stops h.stops;have hr:=Kw N.ae h.ae;have hu:=E1 N h.runs;have hl:=CX N h.runs h.ah.1;have hf:=Ky N.ar N.aO N.within N.cap h.ar;unfold va at hf;simp only[ec,qB,qL,ry,rz,rA,rB,rC,rD,rE,rF,rG,U,yI];simp only[hs,hr,hf,hu,hl,U,res,bV,List.length_cons,List.length_nil,Nat.reduceAdd,if_true,List.getD_cons_zero,List.getD_cons_succ,Cg,MX,V2,uh];unfold dD;by_cases h1:(gQ N.stops).2=0
 ·have Xt:=CV N (yP h1) hp;simp only[Xt,U,h1,if_true];by_cases h2:(fv N.ae).2=0
  ·simp only[h2,if_true];rw[KM 2,KM 3,KM 4];by_cases h3:(gg N.runs N.stops.length N.ae.length).2=0
   ·simp only[h3,if_true];by_cases h4:(gY N.runs N.ah).2=0
    ·simp only[h4,if_true];by_cases h5:(cX N.paths N.stops.length).2=0
     ·simp only[h5,if_true];by_cases h6:(dK N.ar N.aO N.within N.cap).2=0
      ·simp only[h6,if_true,MX,V2,yJ,wK,Cf,asInt,U,uh,zO,decide_true,decide_false,Bool.false_eq_true,fZ]
      ·simp only[h6,if_true,if_false,MX,V2,yJ,wK,Cf,asInt,U,uh,zO,decide_true,decide_false,Bool.false_eq_true,fZ]
     ·simp only[h5,if_true,if_false,MX,V2,yJ,wK,Cf,asInt,U,uh,zO,decide_true,decide_false,Bool.false_eq_true,fZ]
    ·simp only[h4,if_true,if_false,MX,V2,yJ,wK,Cf,asInt,U,uh,zO,decide_true,decide_false,Bool.false_eq_true,fZ]
   ·simp only[h3,if_true,if_false,MX,V2,yJ,wK,Cf,asInt,U,uh,zO,decide_true,decide_false,Bool.false_eq_true,fZ]
  ·simp only[h2,if_true,if_false,MX,V2,yJ,wK,Cf,asInt,U,uh,zO,decide_true,decide_false,Bool.false_eq_true,fZ]
 ·simp only[h1,if_true,if_false,MX,V2,yJ,wK,Cf,asInt,U,uh,zO,decide_true,decide_false,Bool.false_eq_true,fZ]
theorem E4(N:af)(h:N.Ok)(hn:N.stops.length≤64)(hp:N.paths.length≤4096):cd.run lC (0,N.stops.map Stop.pv,N.ae.map av.pv,N.runs.map bx.pv,N.ah.map aH.pv,N.paths.map Path.pv,N.ar.map aR.pv,N.aO,N.within,N.cap,())=some (fZ (if(bW (cE N.runs N.ah) N.ah.length).2=0 then
  if(cX N.paths N.stops.length).2=0 then if(dK N.ar N.aO N.within N.cap).2=0 then(0,0,0)else(5,dK N.ar N.aO N.within N.cap)
  else(4,cX N.paths N.stops.length)
 else(3,bW (cE N.runs N.ah) N.ah.length))):=by
 have hm:=aW
 have MC:=h.ah.1
 have Xt:=OW N hn hp
 have hf:=OP N.ar N.aO N.within N.cap h.ar
 unfold va at hf
 have hg:=il (cE N.runs N.ah) N.ah.length (fun i e=>fZ (3,i,e)) (some (fZ (if(cX N.paths N.stops.length).2=0 then if(dK N.ar N.aO N.within N.cap).2=0 then(0,0,0)else(5,dK N.ar N.aO N.within N.cap)else(4,cX N.paths N.stops.length))))
 have hR:(if(bW (cE N.runs N.ah) N.ah.length).2=0 then(some (fZ (if(cX N.paths N.stops.length).2=0 then if(dK N.ar N.aO N.within N.cap).2=0 then(0,0,0)else(5,dK N.ar N.aO N.within N.cap)else(4,cX N.paths N.stops.length))))else some (fZ (3,(bW (cE N.runs N.ah) N.ah.length).1,(bW (cE N.runs N.ah) N.ah.length).2)))=some (fZ (if(bW (cE N.runs N.ah) N.ah.length).2=0 then
   if(cX N.paths N.stops.length).2=0 then if(dK N.ar N.aO N.within N.cap).2=0 then(0,0,0)else(5,dK N.ar N.aO N.within N.cap)
   else(4,cX N.paths N.stops.length)
  else(3,bW (cE N.runs N.ah) N.ah.length))):=by
  by_cases hz:(bW (cE N.runs N.ah) N.ah.length).2=0
  ·rw[if_pos hz,if_pos hz]
  ·rw[if_neg hz,if_neg hz]
 rw[←hR,←hg]
 refine vL (fun k=>((k:Int),N.stops.map Stop.pv,N.ae.map av.pv,N.runs.map bx.pv,N.ah.map aH.pv,N.paths.map Path.pv,N.ar.map aR.pv,N.aO,N.within,N.cap,())) N.ah.length _ (fun k hk Ak rec=>?_) (fun _ rec=>?_) (by have:=aS;omega) rfl
 ·have aaF:∀j,j<k→cE N.runs N.ah j=0:=fun j hj=>by
   have:=Ak j hj;by_cases h0:cE N.runs N.ah j=0
   ·exact h0
   ·rw[if_neg h0]at this;cases this
  have Um:=R1 N h.runs MC k hk aaF;have h1:decide ((k:Int)<((N.ah.map aH.pv).length:Int))=true:=by simp;omega
  unfold lC;dsimp only;rw[if_pos h1,yI,Um];simp only[U,asInt,if_true,kH,an (show k<9223372036854775807 by omega)];by_cases he:cE N.runs N.ah k=0
  ·simp only[he,decide_true,Bool.not_true,Bool.false_eq_true,if_false,if_true];rfl
  ·simp only[he,decide_false,Bool.not_false,if_false,if_true];rfl
 ·unfold lC;dsimp only;rw[if_neg (by simp),yI,Xt];simp only[U,res,bV,List.length_cons,List.length_nil,Nat.reduceAdd,if_true,List.getD_cons_zero,List.getD_cons_succ,asInt,kH,hf];by_cases h5:(cX N.paths N.stops.length).2=0
  ·simp only[h5,decide_true,Bool.not_true,Bool.false_eq_true,if_false,if_true];by_cases h6:(dK N.ar N.aO N.within N.cap).2=0
   ·simp only[h6,decide_true,Bool.not_true,Bool.false_eq_true,if_false,if_true,fZ]
   ·simp only[h6,decide_false,Bool.not_false,Bool.false_eq_true,if_false,if_true,fZ]
  ·simp only[h5,decide_false,Bool.not_false,Bool.false_eq_true,if_false,if_true,fZ]
theorem O2(N:af)(h:N.Ok)(hp:N.paths.length≤4096):jM [N.pv]=some (fZ (dD N)):=by
 have hm:=aW;have cP:4096≤maxLen:=by decide
 have hs:=OO N.stops h.stops;have hr:=Kx N.ae h.ae;simp only[jM,tT,qL,ry,rz,rA,rB,rC,rD,rE,rF,rG,U];simp only[hs,hr,U,res,bV,List.length_cons,List.length_nil,Nat.reduceAdd,if_true,List.getD_cons_zero,List.getD_cons_succ,asInt,kH];unfold dD;by_cases h1:(gQ N.stops).2=0
 ·have se:=E4 N h (yP h1) hp;simp only[h1,decide_true,Bool.not_true,Bool.false_eq_true,if_false,if_true];by_cases h2:(fv N.ae).2=0
  ·simp only[h2,decide_true,Bool.not_true,Bool.false_eq_true,if_false,if_true];unfold gg;by_cases s9:N.runs.length>1024
   ·rw[if_pos (by simp;omega),if_pos s9];rfl
   ·rw[if_neg (by simp;omega),if_neg s9];generalize hE:iZ N.runs N.stops.length N.ae.length=E;generalize hF:(if(gY N.runs N.ah).2=0 then
     if(cX N.paths N.stops.length).2=0 then if(dK N.ar N.aO N.within N.cap).2=0 then((0:Int),(0:Int),(0:Int))else(5,dK N.ar N.aO N.within N.cap)
     else(4,cX N.paths N.stops.length)
    else(3,gY N.runs N.ah))=F
    have hg:=il E N.runs.length (fun i e=>fZ (2,i,e)) (some (fZ F));have hR:(if(bW E N.runs.length).2=0 then some (fZ F)else some (fZ (2,(bW E N.runs.length).1,(bW E N.runs.length).2)))=some (fZ (if(bW E N.runs.length).2=0 then F else(2,bW E N.runs.length))):=by
     by_cases hz:(bW E N.runs.length).2=0
     ·rw[if_pos hz,if_pos hz]
     ·rw[if_neg hz,if_neg hz]
    rw[←hR,←hg];refine aX (fun k=>((k:Int),N.stops.map Stop.pv,N.ae.map av.pv,N.runs.map bx.pv,N.ah.map aH.pv,N.paths.map Path.pv,N.ar.map aR.pv,N.aO,N.within,N.cap,())) N.runs.length _ (fun k hk rec=>?_) (fun rec=>?_) (by have:=aS;omega) rfl
    ·have Ae:=UE N h.runs k hk;rw[hE]at Ae;have h1:decide ((k:Int)<((N.runs.map bx.pv).length:Int))=true:=by simp;omega
     unfold pg;dsimp only;rw[if_pos h1,yI,Ae];simp only[U,asInt,if_true,kH,an (show k<9223372036854775807 by omega)];by_cases he:E k=0
     ·simp only[he,decide_true,Bool.not_true,Bool.false_eq_true,if_false,if_true];rfl
     ·simp only[he,decide_false,Bool.not_false,if_false,if_true];rfl
    ·unfold pg;dsimp only;rw[if_neg (by simp),←hF];unfold gY;by_cases FW:N.ah.length>1024
     ·rw[if_pos (by simp;omega),if_pos FW];rfl
     ·rw[if_neg (by simp;omega),if_neg FW,se]
  ·simp only[h2,decide_false,Bool.not_false,Bool.false_eq_true,if_false,if_true,fZ]
 ·simp only[h1,decide_false,Bool.not_false,Bool.false_eq_true,if_false,if_true,fZ]
end Go.Ab.Tt
namespace Go.Ab.Tt
set_option maxRecDepth 100000
set_option linter.unusedVariables false
set_option linter.unusedSimpArgs false
theorem KN{N:af}(h:(dD N).2.2=0):∀k,k<N.runs.length→iZ N.runs N.stops.length N.ae.length k=0:=by
 unfold dD at h;by_cases h1:(gQ N.stops).2=0
 ·rw[if_pos h1]at h;by_cases h2:(fv N.ae).2=0
  ·rw[if_pos h2]at h;by_cases h3:(gg N.runs N.stops.length N.ae.length).2=0
   ·unfold gg at h3;by_cases s9:N.runs.length>1024
    ·rw[if_pos s9]at h3;cases h3
    ·rw[if_neg s9]at h3;exact(mf _ _).1 h3
   ·rw[if_neg h3]at h;exact absurd h h3
  ·rw[if_neg h2]at h;exact absurd h h2
 ·rw[if_neg h1]at h;exact absurd h h1
theorem ui{N:af}(h:(dD N).2.2=0):∀r∈N.runs,(br r.calls N.stops.length 0 3155932800).2=0:=by
 intro r hr;obtain⟨k,hk,rfl⟩:=List.getElem_of_mem hr;have:=KN h k hk;unfold iZ at this;rw[List.getElem?_eq_getElem hk]at this;simp only at this;by_cases hc:(br N.runs[k].calls N.stops.length 0 3155932800).2=0
 ·exact hc
 ·rw[if_neg hc]at this;split at this
  ·cases this
  ·split at this
   ·cases this
   ·split at this
    ·cases this
    ·split at this
     ·cases this
     ·exact absurd this hc
theorem uj{l:List aw}{n a b:Int}(h:(br l n a b).2=0):2≤l.length∧l.length≤32:=by
 unfold br at h;by_cases hc:(decide ((l.length:Int)<2)||decide ((l.length:Int)>32))=true
 ·rw[if_pos hc]at h;cases h
 ·simp only[Bool.or_eq_true,decide_eq_true_eq,not_or]at hc;omega
theorem zP{l:List aw}{n a b:Int}(h:(br l n a b).2=0):∀k,k<l.length→mA l n a b k=0:=by
 unfold br at h;by_cases hc:(decide ((l.length:Int)<2)||decide ((l.length:Int)>32))=true
 ·rw[if_pos hc]at h;cases h
 ·rw[if_neg hc]at h;exact(mf _ _).1 h
theorem pj{c:aw}{p:Option aw}{n a b:Int}(h:lr c p n a b=0):c.arr≤c.dep∧a≤c.arr∧c.dep≤b∧∀q,p=some q→q.dep≤c.arr:=by
 unfold lr at h;cases p with
 |none=>
  dsimp only at h;by_cases hA:(decide (c.stop<0)||decide (c.stop≥n))=true
  ·rw[if_pos hA]at h;cases h
  ·rw[if_neg hA,if_neg (by simp)]at h;by_cases hC:(decide (c.arr<a)||decide (c.arr>c.dep)||decide (c.dep>b)||false)=true
   ·rw[if_pos hC]at h;cases h
   ·simp only[Bool.or_eq_true,decide_eq_true_eq,not_or]at hC;exact⟨by omega,by omega,by omega,fun q hq=>by cases hq⟩
 |some r=>
  dsimp only at h;by_cases hA:(decide (c.stop<0)||decide (c.stop≥n))=true
  ·rw[if_pos hA]at h;cases h
  ·rw[if_neg hA]at h;by_cases hB:decide (r.stop=c.stop)=true
   ·rw[if_pos hB]at h;cases h
   ·rw[if_neg hB]at h;by_cases hC:(decide (c.arr<a)||decide (c.arr>c.dep)||decide (c.dep>b)||decide (c.arr<r.dep))=true
    ·rw[if_pos hC]at h;cases h
    ·simp only[Bool.or_eq_true,decide_eq_true_eq,not_or]at hC;exact⟨by omega,by omega,by omega,fun q hq=>by cases hq;omega⟩
end Go.Ab.Tt
namespace Go.Ab.Tt
set_option maxRecDepth 100000
set_option linter.unusedVariables false
set_option linter.unusedSimpArgs false
theorem Stop.peq(x y:Stop):cC [cell x.pv 0,cell x.pv 1,cell x.pv 2,cell x.pv 3] [cell y.pv 0,cell y.pv 1,cell y.pv 2,cell y.pv 3]=decide (x=y):=by cases x;cases y;rw[Bool.eq_iff_iff];simp[cell,Stop.pv,PV.cells,cC,Ab.peq]
theorem av.peq(x y:av):cC [cell x.pv 0,cell x.pv 1,cell x.pv 2] [cell y.pv 0,cell y.pv 1,cell y.pv 2]=decide (x=y):=by cases x;cases y;rw[Bool.eq_iff_iff];simp[cell,av.pv,PV.cells,cC,Ab.peq]
theorem aw.peq(x y:aw):cC [cell x.pv 0,cell x.pv 1,cell x.pv 2,cell x.pv 3,cell x.pv 4] [cell y.pv 0,cell y.pv 1,cell y.pv 2,cell y.pv 3,cell y.pv 4]=decide (x=y):=by cases x;cases y;rw[Bool.eq_iff_iff];simp[cell,aw.pv,PV.cells,cC,Ab.peq]
theorem aH.peq(x y:aH):cC [cell x.pv 0,cell x.pv 1,cell x.pv 2,cell x.pv 3,cell x.pv 4] [cell y.pv 0,cell y.pv 1,cell y.pv 2,cell y.pv 3,cell y.pv 4]=decide (x=y):=by cases x;cases y;rw[Bool.eq_iff_iff];simp[cell,aH.pv,PV.cells,cC,Ab.peq]
theorem Path.peq(x y:Path):cC [cell x.pv 0,cell x.pv 1,cell x.pv 2,cell x.pv 3] [cell y.pv 0,cell y.pv 1,cell y.pv 2,cell y.pv 3]=decide (x=y):=by cases x;cases y;rw[Bool.eq_iff_iff];simp[cell,Path.pv,PV.cells,cC,Ab.peq]
theorem aR.peq(x y:aR):cC [cell x.pv 0,cell x.pv 1,cell x.pv 2,cell x.pv 3,cell x.pv 4,cell x.pv 5] [cell y.pv 0,cell y.pv 1,cell y.pv 2,cell y.pv 3,cell y.pv 4,cell y.pv 5]=decide (x=y):=by cases x;cases y;rw[Bool.eq_iff_iff];simp[cell,aR.pv,PV.cells,cC,Ab.peq]
theorem pY{a b:Nat}:((a:Int) !=(b:Int))= !decide (a=b):=by rw[Bool.eq_iff_iff];simp;omega
theorem E5{c:Prop}[Decidable c]:(if c then some (PV.bool true)else some (PV.bool false))=some (PV.bool (decide c)):=by by_cases h:c<;>simp[h]
theorem pG(a b:List aw)(ha:a.length≤maxLen):cj [.rs 5 (a.map aw.pv),.rs 5 (b.map aw.pv)]=some (.bool (decide (a=b))):=by
 have hm:=aW;simp only[cj,gO,ab,if_true,U,List.length_map];by_cases h:a.length=b.length
 ·rw[if_neg (by rw[pY];simp[h])];refine(aX (fun k=>(a.map aw.pv,b.map aw.pv,(a.length:Int),(k:Int),())) a.length (fun k=>if a[k]?=b[k]? then none else some (some (PV.bool false))) (fun k hk rec=>?_) (fin:=some (PV.bool true)) (fun rec=>?_) (by have:=aS;omega) rfl).trans ?_
  ·have h1:decide ((k:Int)<(a.length:Int))=true:=by simp;omega
   have jE:k<b.length:=by omega
   unfold fE;dsimp only;try rw[List.length_map]
   rw[if_pos h1,az,az,List.getElem?_map,List.getElem?_map,List.getElem?_eq_getElem hk,List.getElem?_eq_getElem jE];simp only[Option.map_some,U];rw[if_pos ⟨rfl,rfl⟩,aw.peq,an (by omega)];by_cases he:a[k]=b[k]
   ·simp[he,da]
   ·simp[he,da]
  ·unfold fE;dsimp only;rw[if_neg (by simp)]
  ·exact(mB a b h (some (PV.bool false)) (some (PV.bool true))).trans E5
 ·rw[if_pos (by rw[pY];simp[h])];have:a≠b:=fun e=>h (by rw[e]);simp[this]
theorem E6(a b:List aw)(ha:a.length≤maxLen):fO [.rs 5 (a.map aw.pv),.rs 5 (b.map aw.pv)]=some (.bool (decide (a=b))):=by
 have hm:=aW;simp only[fO,nr,ab,if_true,U,List.length_map];by_cases h:a.length=b.length
 ·rw[if_neg (by rw[pY];simp[h])];refine(aX (fun k=>(a.map aw.pv,b.map aw.pv,(k:Int),())) a.length (fun k=>if a[k]?=b[k]? then none else some (some (PV.bool false))) (fun k hk rec=>?_) (fin:=some (PV.bool true)) (fun rec=>?_) (by have:=aS;omega) rfl).trans ?_
  ·have h1:decide ((k:Int)<(a.length:Int))=true:=by simp;omega
   have jE:k<b.length:=by omega
   unfold kq;dsimp only;try rw[List.length_map]
   rw[if_pos h1,az,az,List.getElem?_map,List.getElem?_map,List.getElem?_eq_getElem hk,List.getElem?_eq_getElem jE];simp only[Option.map_some,U];rw[if_pos ⟨rfl,rfl⟩,aw.peq,an (by omega)];by_cases he:a[k]=b[k]
   ·simp[he,da]
   ·simp[he,da]
  ·unfold kq;dsimp only;rw[if_neg (by simp)]
  ·exact(mB a b h (some (PV.bool false)) (some (PV.bool true))).trans E5
 ·rw[if_pos (by rw[pY];simp[h])];have:a≠b:=fun e=>h (by rw[e]);simp[this]
def uk(l:List aR)(d w c:Int):PV:=.agg [.rs 6 (l.map aR.pv),.int .i64 d,.int .i64 w,.int .i64 c]
theorem nK(a b:List aR)(d1 w1 c1 d2 w2 c2:Int)(ha:a.length≤maxLen):fP [uk a d1 w1 c1,uk b d2 w2 c2]=some (.bool (decide (d1=d2)&&decide (w1=w2)&&decide (c1=c2)&&decide (a=b))):=by
 have hm:=aW;have f0:∀l d w c,asAgg 4 (uk l d w c)=some ():=fun _ _ _ _=>rfl;have f1:∀l d w c,cell (uk l d w c) 0=.rs 6 (l.map aR.pv):=fun _ _ _ _=>rfl;have f2:∀l d w c,cell (uk l d w c) 1=.int .i64 d:=fun _ _ _ _=>rfl;have f3:∀l d w c,cell (uk l d w c) 2=.int .i64 w:=fun _ _ _ _=>rfl;have f4:∀l d w c,cell (uk l d w c) 3=.int .i64 c:=fun _ _ _ _=>rfl;simp only[fP,nu,f0,f1,f2,f3,f4,ab,asInt,if_true,U,List.length_map,pY,kH,bn];by_cases h:a.length=b.length
 ·by_cases e1:d1=d2
  ·by_cases e2:w1=w2
   ·by_cases e3:c1=c2
    ·rw[if_neg (by simp[h,e1,e2,e3])];simp only[e1,e2,e3,decide_true,Bool.true_and];refine(aX (fun k=>((k:Int),a.map aR.pv,d2,w2,c2,b.map aR.pv,d2,w2,c2,())) a.length (fun k=>if a[k]?=b[k]? then none else some (some (PV.bool false))) (fun k hk rec=>?_) (fin:=some (PV.bool true)) (fun rec=>?_) (by have:=aS;omega) rfl).trans ?_
     ·have h1:decide ((k:Int)<(a.length:Int))=true:=by simp;omega
      have jE:k<b.length:=by omega
      unfold kr;dsimp only;try rw[List.length_map]
      rw[if_pos h1,az,az,List.getElem?_map,List.getElem?_map,List.getElem?_eq_getElem hk,List.getElem?_eq_getElem jE];simp only[Option.map_some,U];rw[if_pos ⟨rfl,rfl⟩,aR.peq,an (by omega)];by_cases he:a[k]=b[k]
      ·simp[he,da]
      ·simp[he,da]
     ·unfold kr;dsimp only;rw[if_neg (by simp)]
     ·exact(mB a b h (some (PV.bool false)) (some (PV.bool true))).trans E5
    ·rw[if_pos (by simp[e3])];simp[e3]
   ·rw[if_pos (by simp[e2])];simp[e2]
  ·rw[if_pos (by simp[e1])];simp[e1]
 ·rw[if_pos (by
   have h':¬((a.length:Int)=(b.length:Int)):=by omega
   simp[h'])]
  have:a≠b:=fun e=>h (by rw[e]);simp[this]
theorem M3(x y:bx):decide (x=y)=(decide (x.dw=y.dw)&&decide (x.day=y.day)&&decide (x.inst=y.inst)&&decide (x.id=y.id)&&decide (x.bj=y.bj)&&decide (x.free=y.free)&&decide (x.pE=y.pE)&&decide (x.calls=y.calls)):=by cases x;cases y;rw[Bool.eq_iff_iff];simp[and_assoc]
theorem pZ(a b:List bx)(ha:a.length≤maxLen)(hc:∀x∈a,x.calls.length≤maxLen):gu [.rs 8 (a.map bx.pv),.rs 8 (b.map bx.pv)]=some (.bool (decide (a=b))):=by
 have hm:=aW;simp only[gu,oQ,ab,if_true,U,List.length_map];by_cases h:a.length=b.length
 ·rw[if_neg (by rw[pY];simp[h])];refine(aX (fun k=>(a.map bx.pv,b.map bx.pv,(k:Int),())) a.length (fun k=>if a[k]?=b[k]? then none else some (some (PV.bool false))) (fun k hk rec=>?_) (fin:=some (PV.bool true)) (fun rec=>?_) (by have:=aS;omega) rfl).trans ?_
  ·have h1:decide ((k:Int)<(a.length:Int))=true:=by simp;omega
   have jE:k<b.length:=by omega
   have gB:=E6 a[k].calls b[k].calls (hc _ (List.getElem_mem hk));unfold lD;dsimp only;rw[List.length_map,if_pos h1,az,az,List.getElem?_map,List.getElem?_map,List.getElem?_eq_getElem hk,List.getElem?_eq_getElem jE];simp only[Option.map_some,U,UC,OR,OS,OT,UD,XN,XO,EY,asInt,bB,asBool,ab,if_true,gB,bn,kH,ff,an (show k<9223372036854775807 by omega)];have hd:=M3 a[k] b[k];by_cases he:a[k]=b[k]
   ·simp[he,da]
   ·rw[if_pos,if_neg (by simpa using he)]
    ·rfl
    ·rw[decide_eq_false he]at hd;revert hd;generalize decide (a[k].dw=b[k].dw)=x1;generalize decide (a[k].day=b[k].day)=x2;generalize decide (a[k].inst=b[k].inst)=x3;generalize decide (a[k].id=b[k].id)=x4;generalize decide (a[k].bj=b[k].bj)=x5;generalize decide (a[k].free=b[k].free)=x6;generalize decide (a[k].pE=b[k].pE)=x7;generalize decide (a[k].calls=b[k].calls)=x8;revert x1 x2 x3 x4 x5 x6 x7 x8;decide
  ·unfold lD;dsimp only;rw[if_neg (by simp)]
  ·exact(mB a b h (some (PV.bool false)) (some (PV.bool true))).trans E5
 ·rw[if_pos (by rw[pY];simp[h])];have:a≠b:=fun e=>h (by rw[e]);simp[this]
def XT(A B:af):Bool:=decide (A.stops=B.stops)&&decide (A.ae=B.ae)&&decide (A.ah=B.ah)&&decide (A.paths=B.paths)&&decide (A.runs=B.runs)&&(decide (A.aO=B.aO)&&decide (A.within=B.within)&&decide (A.cap=B.cap)&&decide (A.ar=B.ar))
theorem R2(A:af):XT A A=true:=by simp[XT]
def KO(A B:af):Bool:=decide (A.runs=B.runs)&&(decide (A.aO=B.aO)&&decide (A.within=B.within)&&decide (A.cap=B.cap)&&decide (A.ar=B.ar))
theorem O3(A B:af)(hA:A.Ok)(h:A.paths.length=B.paths.length):cd.run (gv) (0,A.stops.map Stop.pv,A.ae.map av.pv,A.runs.map bx.pv,A.ah.map aH.pv,A.paths.map Path.pv,A.ar.map aR.pv,A.aO,A.within,A.cap,B.stops.map Stop.pv,B.ae.map av.pv,B.runs.map bx.pv,B.ah.map aH.pv,B.paths.map Path.pv,B.ar.map aR.pv,B.aO,B.within,B.cap,())=if A.paths=B.paths then some (.bool (KO A B))else some (.bool false):=by
 have hm:=aW;have hl:=hA.paths.1;have e1:=pZ A.runs B.runs hA.runs.1 (fun x hx=>(hA.runs.2 x hx).calls.1);have e2:=nK A.ar B.ar A.aO A.within A.cap B.aO B.within B.cap hA.ar.1;unfold uk at e2;generalize tK:(some (.bool (KO A B)):Option PV)=fin;generalize ha:A.paths=a at h hl⊢;generalize hb:B.paths=b at h⊢;refine(aX (fun k=>((k:Int),A.stops.map Stop.pv,A.ae.map av.pv,A.runs.map bx.pv,A.ah.map aH.pv,a.map Path.pv,A.ar.map aR.pv,A.aO,A.within,A.cap,B.stops.map Stop.pv,B.ae.map av.pv,B.runs.map bx.pv,B.ah.map aH.pv,b.map Path.pv,B.ar.map aR.pv,B.aO,B.within,B.cap,())) a.length (fun k=>if a[k]?=b[k]? then none else some (some (PV.bool false))) (fun k hk rec=>?_) (fin:=fin) (fun rec=>?_) (by have:=aS;omega) rfl).trans ?_
 ·have h1:decide ((k:Int)<(a.length:Int))=true:=by simp;omega
  have jE:k<b.length:=by omega
  unfold gv;dsimp only;try rw[List.length_map]
  rw[if_pos h1,az,az,List.getElem?_map,List.getElem?_map,List.getElem?_eq_getElem hk,List.getElem?_eq_getElem jE];simp only[Option.map_some,U];rw[if_pos ⟨rfl,rfl⟩,Path.peq,an (by omega)];by_cases he:a[k]=b[k]
  ·simp[he,da]
  ·simp[he,da]
 ·subst ha;subst hb;rw[←tK];unfold gv;dsimp only;rw[if_neg (by simp)];simp only[e1,e2,U,asBool,dJ];rfl
 ·exact mB a b h _ _
theorem O4(A B:af)(hA:A.Ok)(h:A.ah.length=B.ah.length):cd.run (gw cd) (0,A.stops.map Stop.pv,A.ae.map av.pv,A.runs.map bx.pv,A.ah.map aH.pv,A.paths.map Path.pv,A.ar.map aR.pv,A.aO,A.within,A.cap,B.stops.map Stop.pv,B.ae.map av.pv,B.runs.map bx.pv,B.ah.map aH.pv,B.paths.map Path.pv,B.ar.map aR.pv,B.aO,B.within,B.cap,())=if A.ah=B.ah then cd.run (gv) (0,A.stops.map Stop.pv,A.ae.map av.pv,A.runs.map bx.pv,A.ah.map aH.pv,A.paths.map Path.pv,A.ar.map aR.pv,A.aO,A.within,A.cap,B.stops.map Stop.pv,B.ae.map av.pv,B.runs.map bx.pv,B.ah.map aH.pv,B.paths.map Path.pv,B.ar.map aR.pv,B.aO,B.within,B.cap,())else some (.bool false):=by
 have hm:=aW;have hl:=hA.ah.1;have e1:=pZ A.runs B.runs hA.runs.1 (fun x hx=>(hA.runs.2 x hx).calls.1);have e2:=nK A.ar B.ar A.aO A.within A.cap B.aO B.within B.cap hA.ar.1;unfold uk at e2;generalize tK:(cd.run (gv) (0,A.stops.map Stop.pv,A.ae.map av.pv,A.runs.map bx.pv,A.ah.map aH.pv,A.paths.map Path.pv,A.ar.map aR.pv,A.aO,A.within,A.cap,B.stops.map Stop.pv,B.ae.map av.pv,B.runs.map bx.pv,B.ah.map aH.pv,B.paths.map Path.pv,B.ar.map aR.pv,B.aO,B.within,B.cap,()):Option PV)=fin;generalize ha:A.ah=a at h hl⊢;generalize hb:B.ah=b at h⊢;refine(aX (fun k=>((k:Int),A.stops.map Stop.pv,A.ae.map av.pv,A.runs.map bx.pv,a.map aH.pv,A.paths.map Path.pv,A.ar.map aR.pv,A.aO,A.within,A.cap,B.stops.map Stop.pv,B.ae.map av.pv,B.runs.map bx.pv,b.map aH.pv,B.paths.map Path.pv,B.ar.map aR.pv,B.aO,B.within,B.cap,())) a.length (fun k=>if a[k]?=b[k]? then none else some (some (PV.bool false))) (fun k hk rec=>?_) (fin:=fin) (fun rec=>?_) (by have:=aS;omega) rfl).trans ?_
 ·have h1:decide ((k:Int)<(a.length:Int))=true:=by simp;omega
  have jE:k<b.length:=by omega
  unfold gw;dsimp only;try rw[List.length_map]
  rw[if_pos h1,az,az,List.getElem?_map,List.getElem?_map,List.getElem?_eq_getElem hk,List.getElem?_eq_getElem jE];simp only[Option.map_some,U];rw[if_pos ⟨rfl,rfl⟩,aH.peq,an (by omega)];by_cases he:a[k]=b[k]
  ·simp[he,da]
  ·simp[he,da]
 ·subst ha;subst hb;rw[←tK];unfold gw;dsimp only;rw[if_neg (by simp)]
 ·exact mB a b h _ _
theorem O5(A B:af)(hA:A.Ok)(h:A.ae.length=B.ae.length):cd.run (gx cd) (0,A.stops.map Stop.pv,A.ae.map av.pv,A.runs.map bx.pv,A.ah.map aH.pv,A.paths.map Path.pv,A.ar.map aR.pv,A.aO,A.within,A.cap,B.stops.map Stop.pv,B.ae.map av.pv,B.runs.map bx.pv,B.ah.map aH.pv,B.paths.map Path.pv,B.ar.map aR.pv,B.aO,B.within,B.cap,())=if A.ae=B.ae then cd.run (gw cd) (0,A.stops.map Stop.pv,A.ae.map av.pv,A.runs.map bx.pv,A.ah.map aH.pv,A.paths.map Path.pv,A.ar.map aR.pv,A.aO,A.within,A.cap,B.stops.map Stop.pv,B.ae.map av.pv,B.runs.map bx.pv,B.ah.map aH.pv,B.paths.map Path.pv,B.ar.map aR.pv,B.aO,B.within,B.cap,())else some (.bool false):=by
 have hm:=aW;have hl:=hA.ae.1;have e1:=pZ A.runs B.runs hA.runs.1 (fun x hx=>(hA.runs.2 x hx).calls.1);have e2:=nK A.ar B.ar A.aO A.within A.cap B.aO B.within B.cap hA.ar.1;unfold uk at e2;generalize tK:(cd.run (gw cd) (0,A.stops.map Stop.pv,A.ae.map av.pv,A.runs.map bx.pv,A.ah.map aH.pv,A.paths.map Path.pv,A.ar.map aR.pv,A.aO,A.within,A.cap,B.stops.map Stop.pv,B.ae.map av.pv,B.runs.map bx.pv,B.ah.map aH.pv,B.paths.map Path.pv,B.ar.map aR.pv,B.aO,B.within,B.cap,()):Option PV)=fin;generalize ha:A.ae=a at h hl⊢;generalize hb:B.ae=b at h⊢;refine(aX (fun k=>((k:Int),A.stops.map Stop.pv,a.map av.pv,A.runs.map bx.pv,A.ah.map aH.pv,A.paths.map Path.pv,A.ar.map aR.pv,A.aO,A.within,A.cap,B.stops.map Stop.pv,b.map av.pv,B.runs.map bx.pv,B.ah.map aH.pv,B.paths.map Path.pv,B.ar.map aR.pv,B.aO,B.within,B.cap,())) a.length (fun k=>if a[k]?=b[k]? then none else some (some (PV.bool false))) (fun k hk rec=>?_) (fin:=fin) (fun rec=>?_) (by have:=aS;omega) rfl).trans ?_
 ·have h1:decide ((k:Int)<(a.length:Int))=true:=by simp;omega
  have jE:k<b.length:=by omega
  unfold gx;dsimp only;try rw[List.length_map]
  rw[if_pos h1,az,az,List.getElem?_map,List.getElem?_map,List.getElem?_eq_getElem hk,List.getElem?_eq_getElem jE];simp only[Option.map_some,U];rw[if_pos ⟨rfl,rfl⟩,av.peq,an (by omega)];by_cases he:a[k]=b[k]
  ·simp[he,da]
  ·simp[he,da]
 ·subst ha;subst hb;rw[←tK];unfold gx;dsimp only;rw[if_neg (by simp)]
 ·exact mB a b h _ _
theorem O6(A B:af)(hA:A.Ok)(h:A.stops.length=B.stops.length):cd.run (lE cd) (0,A.stops.map Stop.pv,A.ae.map av.pv,A.runs.map bx.pv,A.ah.map aH.pv,A.paths.map Path.pv,A.ar.map aR.pv,A.aO,A.within,A.cap,B.stops.map Stop.pv,B.ae.map av.pv,B.runs.map bx.pv,B.ah.map aH.pv,B.paths.map Path.pv,B.ar.map aR.pv,B.aO,B.within,B.cap,())=if A.stops=B.stops then cd.run (gx cd) (0,A.stops.map Stop.pv,A.ae.map av.pv,A.runs.map bx.pv,A.ah.map aH.pv,A.paths.map Path.pv,A.ar.map aR.pv,A.aO,A.within,A.cap,B.stops.map Stop.pv,B.ae.map av.pv,B.runs.map bx.pv,B.ah.map aH.pv,B.paths.map Path.pv,B.ar.map aR.pv,B.aO,B.within,B.cap,())else some (.bool false):=by
 have hm:=aW;have hl:=hA.stops.1;have e1:=pZ A.runs B.runs hA.runs.1 (fun x hx=>(hA.runs.2 x hx).calls.1);have e2:=nK A.ar B.ar A.aO A.within A.cap B.aO B.within B.cap hA.ar.1;unfold uk at e2;generalize tK:(cd.run (gx cd) (0,A.stops.map Stop.pv,A.ae.map av.pv,A.runs.map bx.pv,A.ah.map aH.pv,A.paths.map Path.pv,A.ar.map aR.pv,A.aO,A.within,A.cap,B.stops.map Stop.pv,B.ae.map av.pv,B.runs.map bx.pv,B.ah.map aH.pv,B.paths.map Path.pv,B.ar.map aR.pv,B.aO,B.within,B.cap,()):Option PV)=fin;generalize ha:A.stops=a at h hl⊢;generalize hb:B.stops=b at h⊢;refine(aX (fun k=>((k:Int),a.map Stop.pv,A.ae.map av.pv,A.runs.map bx.pv,A.ah.map aH.pv,A.paths.map Path.pv,A.ar.map aR.pv,A.aO,A.within,A.cap,b.map Stop.pv,B.ae.map av.pv,B.runs.map bx.pv,B.ah.map aH.pv,B.paths.map Path.pv,B.ar.map aR.pv,B.aO,B.within,B.cap,())) a.length (fun k=>if a[k]?=b[k]? then none else some (some (PV.bool false))) (fun k hk rec=>?_) (fin:=fin) (fun rec=>?_) (by have:=aS;omega) rfl).trans ?_
 ·have h1:decide ((k:Int)<(a.length:Int))=true:=by simp;omega
  have jE:k<b.length:=by omega
  unfold lE;dsimp only;try rw[List.length_map]
  rw[if_pos h1,az,az,List.getElem?_map,List.getElem?_map,List.getElem?_eq_getElem hk,List.getElem?_eq_getElem jE];simp only[Option.map_some,U];rw[if_pos ⟨rfl,rfl⟩,Stop.peq,an (by omega)];by_cases he:a[k]=b[k]
  ·simp[he,da]
  ·simp[he,da]
 ·subst ha;subst hb;rw[←tK];unfold lE;dsimp only;rw[if_neg (by simp)]
 ·exact mB a b h _ _
theorem O7(A B:af)(hA:A.Ok):dx [A.pv,B.pv]=some (.bool (XT A B)):=by
 simp only[dx,mP,qL,ry,rz,rA,rB,rC,rD,rE,rF,rG,U,bn,List.length_map,pY];unfold XT;by_cases h1:A.stops.length=B.stops.length
 ·by_cases h2:A.ae.length=B.ae.length
  ·by_cases h3:A.ah.length=B.ah.length
   ·by_cases h4:A.paths.length=B.paths.length
    ·rw[if_neg (by simp[h1,h2,h3,h4]),O6 A B hA h1,O5 A B hA h2,O4 A B hA h3,O3 A B hA h4];unfold KO;by_cases g1:A.stops=B.stops
     ·by_cases g2:A.ae=B.ae
      ·by_cases g3:A.ah=B.ah
       ·by_cases g4:A.paths=B.paths
        ·rw[if_pos g1,if_pos g2,if_pos g3,if_pos g4];simp[g1,g2,g3,g4]
        ·rw[if_pos g1,if_pos g2,if_pos g3,if_neg g4];simp[g4]
       ·rw[if_pos g1,if_pos g2,if_neg g3];simp[g3]
      ·rw[if_pos g1,if_neg g2];simp[g2]
     ·rw[if_neg g1];simp[g1]
    ·rw[if_pos (by simp[h4])];have:A.paths≠B.paths:=fun e=>h4 (by rw[e]);simp[this]
   ·rw[if_pos (by simp[h3])];have:A.ah≠B.ah:=fun e=>h3 (by rw[e]);simp[this]
  ·rw[if_pos (by simp[h2])];have:A.ae≠B.ae:=fun e=>h2 (by rw[e]);simp[this]
 ·rw[if_pos (by simp[h1])];have:A.stops≠B.stops:=fun e=>h1 (by rw[e]);simp[this]
end Go.Ab.Tt
namespace Go.Ab.Tt
set_option maxRecDepth 100000
set_option linter.unusedVariables false
set_option linter.unusedSimpArgs false
theorem cK(es:List PV)(n:Nat)(h:es.length≤1000)(hn:0<n)(hn2:n≤1000):(([]:List PV)++es).length*n≤aa∧0<n:=by refine⟨?_,hn⟩;rw[List.nil_append];have:es.length*n≤1000*1000:=Nat.mul_le_mul h hn2;unfold aa;omega
theorem ku(es:List PV):List.take (((([]:List PV)++es).length:Int).toNat) (([]:List PV)++es)=es:=by simp
theorem Cl(es:List PV)(h:es.length≤1000):cy [.rs 4 es]=some (.rs 4 es):=by simp only[cy,kn,ab,if_true,U];rw[if_pos (cK es 40 h (by decide) (by decide)),if_pos ⟨by omega,by omega,by omega,trivial⟩,ku]
theorem zQ(es:List PV)(h:es.length≤1000):ck [.rs 3 es]=some (.rs 3 es):=by simp only[ck,jw,ab,if_true,U];rw[if_pos (cK es 32 h (by decide) (by decide)),if_pos ⟨by omega,by omega,by omega,trivial⟩,ku]
theorem DQ(es:List PV)(h:es.length≤1000):cT [.rs 8 es]=some (.rs 8 es):=by simp only[cT,lh,ab,if_true,U];rw[if_pos (cK es 80 h (by decide) (by decide)),if_pos ⟨by omega,by omega,by omega,trivial⟩,ku]
theorem Cm(es:List PV)(h:es.length≤1000):cz [.rs 5 es]=some (.rs 5 es):=by simp only[cz,kj,ab,if_true,U];rw[if_pos (cK es 40 h (by decide) (by decide)),if_pos ⟨by omega,by omega,by omega,trivial⟩,ku]
theorem uo(es:List PV)(h:es.length≤1000):bH [.rs 4 es]=some (.rs 4 es):=by simp only[bH,gP,ab,if_true,U];rw[if_pos (cK es 32 h (by decide) (by decide)),if_pos ⟨by omega,by omega,by omega,trivial⟩,ku]
theorem Cn(es:List PV)(h:es.length≤1000):cA [.rs 5 es]=some (.rs 5 es):=by simp only[cA,kc,ab,if_true,U];rw[if_pos (cK es 32 h (by decide) (by decide)),if_pos ⟨by omega,by omega,by omega,trivial⟩,ku]
theorem vN(es:List PV)(h:es.length≤1000):bO [.rs 6 es]=some (.rs 6 es):=by simp only[bO,iq,ab,if_true,U];rw[if_pos (cK es 56 h (by decide) (by decide)),if_pos ⟨by omega,by omega,by omega,trivial⟩,ku]
variable{A:Type}
def mix(f g:A→PV)(l:List A)(k:Nat):List PV:=(l.take k).map f++(l.drop k).map g
theorem Hn(f g:A→PV)(l:List A):mix f g l 0=l.map g:=by simp[mix]
theorem E7(f g:A→PV)(l:List A):mix f g l l.length=l.map f:=by simp[mix]
theorem M4(f g:A→PV)(l:List A)(k:Nat):(mix f g l k).length=l.length:=by simp[mix];omega
theorem M5(f g:A→PV)(l:List A)(k:Nat)(h:k<l.length):(mix f g l k)[k]?=some (g l[k]):=by unfold mix;rw[List.getElem?_append_right (by simp;omega)];simp only[List.length_map,List.length_take,Nat.min_eq_left (Nat.le_of_lt h),Nat.sub_self,List.getElem?_map,List.getElem?_drop,Nat.add_zero,List.getElem?_eq_getElem h,Option.map_some]
theorem M6(f g:A→PV)(l:List A)(k:Nat)(h:k<l.length):(mix f g l k).set k (f l[k])=mix f g l (k+1):=by
 apply List.ext_getElem?;intro j;rw[List.getElem?_set];unfold mix;by_cases hj:k=j
 ·subst hj;rw[if_pos rfl,if_pos (by simp;omega),List.getElem?_append_left (by simp;omega)];simp[h]
 ·rw[if_neg hj];by_cases bt:j<k
  ·rw[List.getElem?_append_left (by simp;omega),List.getElem?_append_left (by simp;omega)];simp[bt,Nat.lt_succ_of_lt bt]
  ·rw[List.getElem?_append_right (by simp;omega),List.getElem?_append_right (by simp;omega)];simp only[List.length_map,List.length_take,List.getElem?_map,List.getElem?_drop];congr 2;omega
theorem eo(f g:A→PV)(l:List A)(k:Nat)(h:k<l.length)(p:PV):((mix f g l k).set k p)[k]?=some p:=by rw[List.getElem?_set,if_pos rfl,if_pos (by rw[M4];exact h)]
theorem E8(f g:A→PV)(l:List A)(k:Nat)(h:k<l.length):ag (k:Int) (mix f g l k).length:=by rw[M4];exact⟨by omega,by omega⟩
def bx.pO(x:bx):PV:=.agg [.int .i64 x.dw,.int .i64 x.day,.int .i64 x.inst,.str x.id,.int .i64 x.bj,.bool x.free,.bool x.pE,.fQ 5 (x.calls.map aw.pv)]
theorem kv(l:List bx):(l.map bx.pO).map PV.strip=l.map bx.pv:=by rw[List.map_map];rfl
end Go.Ab.Tt
