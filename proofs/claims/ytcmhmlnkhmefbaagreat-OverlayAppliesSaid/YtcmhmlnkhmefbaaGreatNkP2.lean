import Derived.Test.YtcmhmlnkhmefbaaGreatNkP1
import Derived.Test.YtcmhmlnkhmefbaaGreatNwP2
namespace Go.Ab.Tt
set_option maxRecDepth 100000
set_option linter.unusedVariables false
set_option linter.unusedSimpArgs false
def bX(x:Path):Int×Int×Bool:=(x.a,x.b,x.free)
def za(x:Int×Int×Bool):PV:=.agg [.int .i64 x.1,.int .i64 x.2.1,.bool x.2.2]
theorem HM(a b:Int×Int×Bool):cA (za a).cells (za b).cells=decide (a=b):=by obtain⟨a1,a2,a3⟩:=a;obtain⟨b1,b2,b3⟩:=b;rw[Bool.eq_iff_iff];simp[za,PV.cells,cA,peq]
def dr(l:List Path)(n:Int)(k:Nat):Int:=match l[k]? with
 |none=>0
 |some x=>if(decide (x.a<0)||decide (x.a≥n)||decide (x.b<0)||decide (x.b≥n)||decide (x.a=x.b))=true then 9 else if(decide (x.bm<1)||decide (x.bm>14400))=true then 2 else if bX x∈(l.map bX).take k then 6 else 0
theorem LB(l:List Path)(n:Int)(hl:l.length≤maxLen):ez [.rs 4 (l.map Path.pv),.int .i64 n]=some (res (bS (dr l n) l.length).1 (bS (dr l n) l.length).2):=by
 have hm:=aT;simp only[ez,pj,ab,asInt,if_true,U,List.length_map];rw[←lD];refine aY (fun k=>(n,l.map Path.pv,(l.length:Int),(k:Int),seen za ((l.map bX).take k),())) l.length _ (fun k hk rec=>?_) (fun rec=>?_) ?_ rfl
 ·have h1:(k:Int)<(l.length:Int):=by omega
  have qN:eM (.agg [.int .i64 l[k].a,.int .i64 l[k].b,.bool l[k].free]) (.bool true) (seen za ((l.map bX).take k))=_:=nd HM (bX l[k]) ((l.map bX).take k);have rT:dH (.agg [.int .i64 l[k].a,.int .i64 l[k].b,.bool l[k].free]) (.bool false) (seen za ((l.map bX).take k))=_:=kQ HM (bX l[k]) ((l.map bX).take k);simp only[lH,decide_eq_true_eq,h1,if_true,aq,List.getElem?_map,List.getElem?_eq_getElem hk,Option.map_some,U,HJ,HK,Ob,HL,asInt,asBool,qN,rT,ef,al (show k<9223372036854775807 by omega),pq bX l k hk];unfold dr;rw[List.getElem?_eq_getElem hk];simp only;by_cases bO:bX l[k]∈(l.map bX).take k
  ·simp only[bO,if_true];by_cases e1:l[k].a<0<;>by_cases e2:l[k].a≥n<;>by_cases e3:l[k].b<0<;>by_cases e4:l[k].b≥n<;>by_cases e5:l[k].a=l[k].b<;>by_cases e6:l[k].bm<1<;>by_cases e7:l[k].bm>14400<;>simp only[e1,e2,e3,e4,e5,e6,e7,decide_true,decide_false,Bool.or_true,Bool.true_or,Bool.or_false,if_true,if_false,Bool.false_eq_true]<;>rfl
  ·simp only[bO,if_false,Bool.false_eq_true];by_cases e1:l[k].a<0<;>by_cases e2:l[k].a≥n<;>by_cases e3:l[k].b<0<;>by_cases e4:l[k].b≥n<;>by_cases e5:l[k].a=l[k].b<;>by_cases e6:l[k].bm<1<;>by_cases e7:l[k].bm>14400<;>simp only[e1,e2,e3,e4,e5,e6,e7,decide_true,decide_false,Bool.or_true,Bool.true_or,Bool.or_false,if_true,if_false,Bool.false_eq_true]<;>rfl
 ·simp only[lH,decide_eq_true_eq,Int.lt_irrefl,if_false];rfl
 ·have:=aP;omega
def toFp(p:Path):Nw.Fp:=⟨p.a.toNat,p.b.toNat,p.bm.toNat,p.free⟩
def Sound(l:List Path)(n:Nat):Prop:=∀p∈l,0≤p.a∧p.a<n∧0≤p.b∧p.b<n∧1≤p.bm∧p.bm≤14400
variable{l:List Path}{n:Nat}
theorem HN(h:(bS (dr l n) l.length).2=0):Sound l n:=by
 intro p hp;obtain⟨k,hk,rfl⟩:=List.getElem_of_mem hp;have h0:=(mD _ _).1 h k hk;unfold dr at h0;rw[List.getElem?_eq_getElem hk]at h0;simp only at h0;by_cases c1:(decide (l[k].a<0)||decide (l[k].a≥n)||decide (l[k].b<0)||decide (l[k].b≥n)||decide (l[k].a=l[k].b))=true
 ·rw[if_pos c1]at h0;omega
 ·rw[if_neg c1]at h0;by_cases c2:(decide (l[k].bm<1)||decide (l[k].bm>14400))=true
  ·rw[if_pos c2]at h0;omega
  ·simp only[Bool.or_eq_true,decide_eq_true_eq]at c1 c2;omega
theorem toFp_pv{p:Path}(h1:0≤p.a)(h2:0≤p.b)(h3:1≤p.bm):(toFp p).pv=p.pv:=by simp only[toFp,Nw.Fp.pv,Path.pv];rw[Int.toNat_of_nonneg h1,Int.toNat_of_nonneg h2,Int.toNat_of_nonneg (by omega)]
theorem SY(h:Sound l n):(l.map toFp).map Nw.Fp.pv=l.map Path.pv:=by rw[List.map_map];apply List.map_congr_left;intro p hp;exact toFp_pv (h p hp).1 (h p hp).2.2.1 (h p hp).2.2.2.2.1
def Od(e:List PV):Path:=match e with|[.int .i64 a,.int .i64 b,.int .i64 s,.bool f]=>⟨a,b,s,f⟩|_=>⟨0,0,0,false⟩
theorem CJ:∀(L:List (List PV)),(∀e∈L,Nw.IsF e)→eC L=(L.map Od).map Path.pv
 |[],_=>rfl
 |e::L,h=>by obtain⟨i,k,s,b,rfl⟩:=h e (by simp);have:=CJ L fun x hx=>h x (by simp[hx]);unfold eC at this⊢;rw[List.map_cons,List.map_cons,List.map_cons,this];rfl
def hT(l:List Path)(n:Nat):List Path:=(Nw.Dw n (Nw.qe n (l.map toFp) false) (Nw.qe n (l.map toFp) true)).map Od
theorem Eu(hn:n≤64)(hl:l.length≤4096)(h:Sound l n):cZ [.rs 4 (l.map Path.pv),.int .i64 n]=some (.rs 4 ((hT l n).map Path.pv))∧fC [.rs 4 (l.map Path.pv),.int .i64 n]=some (.rs 4 ((hT l n).map Path.pv)):=by have:=Nw.LC (l.map toFp) n hn (by simpa using hl) (fun p hp=>by obtain⟨q,hq,rfl⟩:=List.mem_map.1 hp;have:=h q hq;simp only[toFp];omega);rw[SY h,CJ _ (Nw.HO n _ _)]at this;exact this
theorem HP(l:List Path)(n:Nat)(hn:n≤64):(hT l n).length≤8192:=by
 have h1:(hT l n).length=(eC (Nw.Dw n (Nw.qe n (l.map toFp) false) (Nw.qe n (l.map toFp) true))).length:=by simp[hT,eC]
 rw[h1,Nw.zb];have h2:=Nw.xP (it:=fun i k=>Nw.AW (Nw.qe n (l.map toFp) false i k) (Nw.qe n (l.map toFp) true i k) i k) (fun i k=>Nw.FI _ _ i k) n n;have h3:2*n*n≤2*64*64:=Nat.mul_le_mul (Nat.mul_le_mul_left 2 hn) hn;omega
theorem HQ(x y:Path):cA [cell x.pv 0,cell x.pv 1,cell x.pv 2,cell x.pv 3] [cell y.pv 0,cell y.pv 1,cell y.pv 2,cell y.pv 3]=decide (x=y):=by rw[Bool.eq_iff_iff];obtain⟨a,b,c,d⟩:=x;obtain⟨a',b',c',d'⟩:=y;simp[HJ,HK,Ob,HL,cA,peq]
theorem xQ(x:Path):gX (Kd.int IntKind.i64::[].append (Kd.int IntKind.i64::[].append (Kd.int IntKind.i64::[].append (Kd.bool::[].append [])))) [cell x.pv 0,cell x.pv 1,cell x.pv 2,cell x.pv 3]=true:=rfl
def lI(l:List Path)(n:Nat):Bool:=decide (hT l n=l)
theorem HR(hn:n≤64)(hl:l.length≤4096)(h:(bS (dr l n) l.length).2=0):dn [.rs 4 (l.map Path.pv),.int .i64 n]=some (.bool (lI l n)):=by
 have hm:4096≤maxLen:=by decide
 have hs:=LB l n (by omega);have hf:=PU _ _ h;rw[h,hf]at hs;have hc:=(Eu hn hl (HN h)).1;have ta:=HP l n hn;have tw:¬decide ((n:Int)>64)=true:=by simp;omega
 have h0:¬(0:Int)>(n:Int):=by omega
 simp only[dn,lC,ab,asInt,if_true,U];rw[if_neg tw,hs];simp only[res,bJ,List.length_cons,List.length_nil,Nat.reduceAdd,if_true,U,List.getD_cons_zero,List.getD_cons_succ,asInt,if_neg h0,hc,ab,List.length_map];rw[if_neg (by decide)];unfold lI;by_cases hlen:(hT l n).length=l.length
 ·rw[if_neg (by simp[jw,hlen])];have hr:=mP (hT l n) l hlen (some (PV.bool false)) (some (PV.bool true));have:some (PV.bool (decide (hT l n=l)))=if hT l n=l then some (PV.bool true)else some (PV.bool false):=by by_cases hc:hT l n=l<;>simp[hc]
  rw[this,←hr];refine aY (fun k=>(l.map Path.pv,(hT l n).map Path.pv,((hT l n).length:Int),(k:Int),())) (hT l n).length _ (fun k hk rec=>?_) (fun rec=>?_) ?_ rfl
  ·have h1:decide ((k:Int)<((hT l n).length:Int))=true:=by simp;omega
   have jJ:k<l.length:=by omega
   unfold ja;dsimp only;rw[if_pos h1,aq,List.getElem?_map,List.getElem?_eq_getElem hk,aq,List.getElem?_map,List.getElem?_eq_getElem jJ];simp only[Option.map_some,U];rw[if_pos ⟨xQ _,xQ _⟩,HQ,al (by omega)];by_cases he:(hT l n)[k]=l[k]
   ·simp[he,c8]
   ·simp[he,c8]
  ·unfold ja;dsimp only;rw[if_neg (by simp)]
  ·have:=aP;omega
 ·rw[if_pos (by simp[jw];omega)];rw[decide_eq_false (fun hc=>hlen (by rw[hc]))]
def cU(l:List Path)(n:Nat):Int×Int:=if(bS (dr l n) l.length).2=0 then(if lI l n=true then(0,0)else(0,18))else bS (dr l n) l.length
def rf(x:Int×Int×Bool):PV:=.agg [.int .i64 x.1,.int .i64 x.2.1,.int .i64 0,.bool x.2.2]
theorem aa4(a b:Int×Int×Bool):cA (rf a).cells (rf b).cells=decide (a=b):=by obtain⟨a1,a2,a3⟩:=a;obtain⟨b1,b2,b3⟩:=b;rw[Bool.eq_iff_iff];simp[rf,PV.cells,cA,peq]
theorem As(N:ag)(l:List Path)(n:Nat)(hl:l.length≤4096)(hlen:(N.stops.map Stop.pv).length=n)(k:Nat)(hk:k<l.length)(rec:PW→Option PV):cP (l.map Path.pv,(l.length:Int),(k:Int),N.stops.map Stop.pv,N.af.map ax.pv,N.runs.map bp.pv,N.ah.map aD.pv,l.map Path.pv,N.aw.map aS.pv,N.aQ,N.within,N.cap,0,0,0,seen rf ((l.map bX).take k),()) rec=c8 (if dr l n k=0 then none else some (some (r3 4 k (dr l n k)))) (rec (l.map Path.pv,(l.length:Int),((k+1:Nat):Int),N.stops.map Stop.pv,N.af.map ax.pv,N.runs.map bp.pv,N.ah.map aD.pv,l.map Path.pv,N.aw.map aS.pv,N.aQ,N.within,N.cap,0,0,0,seen rf ((l.map bX).take (k+1)),())):=by
 have h1:decide ((k:Int)<(l.length:Int))=true:=by simp;omega
 have qN:eM (.agg [.int .i64 l[k].a,.int .i64 l[k].b,.int .i64 0,.bool l[k].free]) (.bool true) (seen rf ((l.map bX).take k))=_:=nd aa4 (bX l[k]) ((l.map bX).take k);have rT:dH (.agg [.int .i64 l[k].a,.int .i64 l[k].b,.int .i64 0,.bool l[k].free]) (.bool false) (seen rf ((l.map bX).take k))=_:=kQ aa4 (bX l[k]) ((l.map bX).take k);unfold cP;dsimp only;rw[if_pos h1,aq,List.getElem?_map,List.getElem?_eq_getElem hk,hlen];simp only[Option.map_some,U,HJ,HK,Ob,HL,asInt,asBool,if_true,wT,aW,ef,qN,rT,CI,Oc,wS,vE,y9,pq bX l k hk,al (show k<9223372036854775807 by omega)];have hA:(!(decide (l[k].a≥0)&&decide (l[k].a<(n:Int)))|| !(decide (l[k].b≥0)&&decide (l[k].b<(n:Int)))||decide (l[k].a=l[k].b))=(decide (l[k].a<0)||decide (l[k].a≥(n:Int))||decide (l[k].b<0)||decide (l[k].b≥(n:Int))||decide (l[k].a=l[k].b)):=by rw[Bool.eq_iff_iff];simp only[Bool.or_eq_true,Bool.not_eq_true',Bool.and_eq_false_iff,decide_eq_true_eq,decide_eq_false_iff_not];omega
 rw[hA];unfold dr;rw[List.getElem?_eq_getElem hk];simp only;generalize (decide (l[k].a<0)||decide (l[k].a≥(n:Int))||decide (l[k].b<0)||decide (l[k].b≥(n:Int))||decide (l[k].a=l[k].b))=A;generalize (decide (l[k].bm<1)||decide (l[k].bm>14400))=B;by_cases bO:bX l[k]∈(l.map bX).take k
 ·simp only[bO,if_true];cases A<;>cases B<;>rfl
 ·simp only[bO,if_false];cases A<;>cases B<;>rfl
theorem Dx(N:ag)(hn:N.stops.length≤64)(hl:N.paths.length≤4096):bF [N.pv]=some (prt 4 (cU N.paths N.stops.length)):=by
 have hm:4096≤maxLen:=by decide
 simp only[bF,kr,nS,pC,pD,pE,pF,pG,pH,pI,pJ,pK,U,List.length_map];generalize GZ:N.paths=l at hl⊢;generalize Pa:N.stops.length=n at hn⊢;have hlen:(N.stops.map Stop.pv).length=n:=by simpa using Pa
 have hg:=ir (dr l n) l.length (fun i e=>r3 4 i e) (some (if lI l n=true then r3 0 0 0 else r3 4 0 18));have hR:some (prt 4 (cU l n))=if(bS (dr l n) l.length).2=0 then some (if lI l n=true then r3 0 0 0 else r3 4 0 18)else some (r3 4 (bS (dr l n) l.length).1 (bS (dr l n) l.length).2):=by
  unfold cU prt;by_cases h:(bS (dr l n) l.length).2=0
  ·rw[if_pos h,if_pos h];cases lI l n<;>rfl
  ·rw[if_neg h,if_neg h,if_neg h]
 rw[hR,←hg];by_cases hz:(bS (dr l n) l.length).2=0
 ·refine aY (fun k=>(l.map Path.pv,(l.length:Int),(k:Int),N.stops.map Stop.pv,N.af.map ax.pv,N.runs.map bp.pv,N.ah.map aD.pv,l.map Path.pv,N.aw.map aS.pv,N.aQ,N.within,N.cap,0,0,0,seen rf ((l.map bX).take k),())) l.length _ (fun k hk rec=>As N l n hl hlen k hk rec) (fun rec=>?_) ?_ rfl
  ·unfold cP;dsimp only;rw[if_neg (by simp),hlen,HR hn hl hz];simp only[U,asBool,CI,Oc,wS,vE,y9];cases lI l n<;>rfl
  ·have:=aP;omega
 ·have tv:=aY (body:=cP) (fun k=>(l.map Path.pv,(l.length:Int),(k:Int),N.stops.map Stop.pv,N.af.map ax.pv,N.runs.map bp.pv,N.ah.map aD.pv,l.map Path.pv,N.aw.map aS.pv,N.aQ,N.within,N.cap,0,0,0,seen rf ((l.map bX).take k),())) l.length _ (fin:=cP (l.map Path.pv,(l.length:Int),(l.length:Int),N.stops.map Stop.pv,N.af.map ax.pv,N.runs.map bp.pv,N.ah.map aD.pv,l.map Path.pv,N.aw.map aS.pv,N.aQ,N.within,N.cap,0,0,0,seen rf ((l.map bX).take l.length),()) fun _=>none) (fun k hk rec=>As N l n hl hlen k hk rec) (fun rec=>?_) (by have:=aP;omega) (s0:=(l.map Path.pv,(l.length:Int),0,N.stops.map Stop.pv,N.af.map ax.pv,N.runs.map bp.pv,N.ah.map aD.pv,l.map Path.pv,N.aw.map aS.pv,N.aQ,N.within,N.cap,0,0,0,[],())) rfl
  ·rw[tv,ir,ir,if_neg hz,if_neg hz]
  ·unfold cP;dsimp only;rw[if_neg (by simp),if_neg (by simp)]
end Go.Ab.Tt
namespace Go.Ab.Tt
set_option maxRecDepth 100000
set_option linter.unusedVariables false
set_option linter.unusedSimpArgs false
theorem FJ(N:ag)(l:List Path)(hl:l.length≤4096)(i:Nat)(hi:i<l.length)(eO:Dy→Option PV):bK.run (lJ eO) ((i:Int),0,N.stops.map Stop.pv,N.af.map ax.pv,N.runs.map bp.pv,N.ah.map aD.pv,l.map Path.pv,N.aw.map aS.pv,N.aQ,N.within,N.cap,.int .i64 l[i].a,.int .i64 l[i].b,.int .i64 l[i].bm,.bool l[i].free,())=if bX l[i]∈(l.map bX).take i then some (res i 6)else eO (IntKind.i64.wrap ((i:Int)+1),N.stops.map Stop.pv,N.af.map ax.pv,N.runs.map bp.pv,N.ah.map aD.pv,l.map Path.pv,N.aw.map aS.pv,N.aQ,N.within,N.cap,()):=by
 have hm:4096≤maxLen:=by decide
 refine(px (fun k=>((i:Int),(k:Int),N.stops.map Stop.pv,N.af.map ax.pv,N.runs.map bp.pv,N.ah.map aD.pv,l.map Path.pv,N.aw.map aS.pv,N.aQ,N.within,N.cap,PV.int .i64 l[i].a,PV.int .i64 l[i].b,PV.int .i64 l[i].bm,PV.bool l[i].free,())) i (fun k=>decide ((l.map bX)[k]?=some (bX l[i]))) (no:=some (res i 6)) (fin:=eO (IntKind.i64.wrap ((i:Int)+1),N.stops.map Stop.pv,N.af.map ax.pv,N.runs.map bp.pv,N.ah.map aD.pv,l.map Path.pv,N.aw.map aS.pv,N.aQ,N.within,N.cap,())) (fun k hk rec=>?_) (fun rec=>?_) ?_ rfl).trans ?_
 ·have h1:decide ((k:Int)<(i:Int))=true:=by simp;omega
  have jJ:k<l.length:=by omega
  have hd:decide ((l.map bX)[k]?=some (bX l[i]))=(decide (l[k].a=l[i].a)&&decide (l[k].b=l[i].b)&&decide (l[k].free=l[i].free)):=by rw[Bool.eq_iff_iff];simp[List.getElem?_eq_getElem jJ,bX,and_assoc]
  rw[hd];unfold lJ;dsimp only;rw[if_pos h1,aq,List.getElem?_map,List.getElem?_eq_getElem jJ];simp only[Option.map_some,U,HJ,HK,HL,asInt,asBool,if_true,al (show k<9223372036854775807 by omega),ef,cT];rfl
 ·unfold lJ;dsimp only;rw[if_neg (by simp)]
 ·have:=aP;omega
 ·rw[A8 _ _ (by simp;omega)];simp only[decide_eq_true_eq]
theorem PX(N:ag)(hn:N.stops.length≤64)(hl:N.paths.length≤4096):jN [N.pv]=some (res (cU N.paths N.stops.length).1 (cU N.paths N.stops.length).2):=by
 have hm:4096≤maxLen:=by decide
 simp only[jN,uf,nS,pC,pD,pE,pF,pG,pH,pI,pJ,pK,U];generalize GZ:N.paths=l at hl⊢;generalize Pa:N.stops.length=n at hn⊢;have hlen:(N.stops.map Stop.pv).length=n:=by simpa using Pa
 have hw:IntKind.i64.wrap ((n:Int)-1)=(n:Int)-1:=fF (by omega) (by omega);have SZ:∀k,(hk:k<l.length)→∀rec,fD bK ((k:Int),N.stops.map Stop.pv,N.af.map ax.pv,N.runs.map bp.pv,N.ah.map aD.pv,l.map Path.pv,N.aw.map aS.pv,N.aQ,N.within,N.cap,()) rec=c8 (if dr l n k=0 then none else some (some (res k (dr l n k)))) (rec (((k+1:Nat):Int),N.stops.map Stop.pv,N.af.map ax.pv,N.runs.map bp.pv,N.ah.map aD.pv,l.map Path.pv,N.aw.map aS.pv,N.aQ,N.within,N.cap,())):=by
  intro k hk rec;have h1:decide ((k:Int)<((l.map Path.pv).length:Int))=true:=by simp;omega
  have oV:=FJ N l hl k hk rec;unfold fD;dsimp only;rw[if_pos h1,aq,List.getElem?_map,List.getElem?_eq_getElem hk,hlen,hw];simp only[Option.map_some,U,HJ,HK,Ob,HL,asInt,asBool,if_true,CE,aW,ef,oV,al (show k<9223372036854775807 by omega)];have hA:(!(decide (l[k].a≥0)&&decide (l[k].a≤(n:Int)-1))|| !(decide (l[k].b≥0)&&decide (l[k].b≤(n:Int)-1))||decide (l[k].a=l[k].b))=(decide (l[k].a<0)||decide (l[k].a≥(n:Int))||decide (l[k].b<0)||decide (l[k].b≥(n:Int))||decide (l[k].a=l[k].b)):=by rw[Bool.eq_iff_iff];simp only[Bool.or_eq_true,Bool.not_eq_true',Bool.and_eq_false_iff,decide_eq_true_eq,decide_eq_false_iff_not];omega
  have hB:(!(decide (l[k].bm≥1)&&decide (l[k].bm≤14400)))=(decide (l[k].bm<1)||decide (l[k].bm>14400)):=by rw[Bool.eq_iff_iff];simp only[Bool.or_eq_true,Bool.not_eq_true',Bool.and_eq_false_iff,decide_eq_true_eq,decide_eq_false_iff_not];omega
  rw[hA,hB];unfold dr;rw[List.getElem?_eq_getElem hk];simp only;generalize (decide (l[k].a<0)||decide (l[k].a≥(n:Int))||decide (l[k].b<0)||decide (l[k].b≥(n:Int))||decide (l[k].a=l[k].b))=A;generalize (decide (l[k].bm<1)||decide (l[k].bm>14400))=B;by_cases bO:bX l[k]∈(l.map bX).take k
  ·simp only[bO,if_true];cases A<;>cases B<;>rfl
  ·simp only[bO,if_false];cases A<;>cases B<;>rfl
 have hg:=ir (dr l n) l.length (fun i e=>res i e) (some (if lI l n=true then res 0 0 else res 0 18));have hR:some (res (cU l n).1 (cU l n).2)=if(bS (dr l n) l.length).2=0 then some (if lI l n=true then res 0 0 else res 0 18)else some (res (bS (dr l n) l.length).1 (bS (dr l n) l.length).2):=by
  unfold cU;by_cases h:(bS (dr l n) l.length).2=0
  ·rw[if_pos h,if_pos h];cases lI l n<;>rfl
  ·rw[if_neg h,if_neg h]
 rw[hR,←hg];by_cases hz:(bS (dr l n) l.length).2=0
 ·refine aY (fun k=>((k:Int),N.stops.map Stop.pv,N.af.map ax.pv,N.runs.map bp.pv,N.ah.map aD.pv,l.map Path.pv,N.aw.map aS.pv,N.aQ,N.within,N.cap,())) l.length _ SZ (fun rec=>?_) ?_ rfl
  ·have hc:=(Eu hn hl (HN hz)).2;have ta:=HP l n hn;unfold fD;dsimp only;rw[if_neg (by simp),hlen,hc];simp only[U,ab,if_true,List.length_map];unfold lI;by_cases S1:(hT l n).length=l.length
   ·rw[if_neg (by simp[jw,S1])];have hr:=mP (hT l n) l S1 (some (res 0 18)) (some (res 0 0));have:some (if decide (hT l n=l)=true then res 0 0 else res 0 18)=if hT l n=l then some (res 0 0)else some (res 0 18):=by by_cases hc:hT l n=l<;>simp[hc]
    rw[this,←hr];refine aY (fun k=>((hT l n).map Path.pv,(k:Int),N.stops.map Stop.pv,N.af.map ax.pv,N.runs.map bp.pv,N.ah.map aD.pv,l.map Path.pv,N.aw.map aS.pv,N.aQ,N.within,N.cap,())) (hT l n).length _ (fun k hk rec=>?_) (fun rec=>?_) ?_ rfl
    ·have h1:decide ((k:Int)<(((hT l n).map Path.pv).length:Int))=true:=by simp;omega
     have jJ:k<l.length:=by omega
     unfold pL;dsimp only;rw[if_pos h1,aq,List.getElem?_map,List.getElem?_eq_getElem hk,aq,List.getElem?_map,List.getElem?_eq_getElem jJ];simp only[Option.map_some,U];rw[if_pos ⟨xQ _,xQ _⟩,HQ,al (by omega)];by_cases he:(hT l n)[k]=l[k]
     ·simp[he,c8]
     ·simp[he,c8,res]
    ·unfold pL;dsimp only;rw[if_neg (by simp)];rfl
    ·have:=aP;omega
   ·rw[if_pos (by simp[jw];omega)];rw[decide_eq_false (fun hc=>S1 (by rw[hc]))];rfl
  ·have:=aP;omega
 ·have tv:=aY (body:=fD bK) (fun k=>((k:Int),N.stops.map Stop.pv,N.af.map ax.pv,N.runs.map bp.pv,N.ah.map aD.pv,l.map Path.pv,N.aw.map aS.pv,N.aQ,N.within,N.cap,())) l.length _ (fin:=fD bK ((l.length:Int),N.stops.map Stop.pv,N.af.map ax.pv,N.runs.map bp.pv,N.ah.map aD.pv,l.map Path.pv,N.aw.map aS.pv,N.aQ,N.within,N.cap,()) fun _=>none) SZ (fun rec=>?_) (by have:=aP;omega) (s0:=(0,N.stops.map Stop.pv,N.af.map ax.pv,N.runs.map bp.pv,N.ah.map aD.pv,l.map Path.pv,N.aw.map aS.pv,N.aQ,N.within,N.cap,())) rfl
  ·rw[tv,ir,ir,if_neg hz,if_neg hz]
  ·unfold fD;dsimp only;rw[if_neg (by simp),if_neg (by simp)]
end Go.Ab.Tt
namespace Go.Ab.Tt
set_option maxRecDepth 100000
set_option linter.unusedVariables false
set_option linter.unusedSimpArgs false
def bD(x:bp):Bytes×Int×Int:=(x.id,x.day,x.inst)
def HS(x:Bytes×Int×Int):PV:=.agg [.str x.1,.int .i64 x.2.1,.int .i64 x.2.2]
theorem S2(a b:Bytes×Int×Int):cA (HS a).cells (HS b).cells=decide (a=b):=by obtain⟨a1,a2,a3⟩:=a;obtain⟨b1,b2,b3⟩:=b;rw[Bool.eq_iff_iff];simp[HS,PV.cells,cA,peq]
def jb(l:List bp)(stops af:Int)(k:Nat):Int:=match l[k]? with
 |none=>0
 |some x=>if dR x.id=false then 12 else if(decide (x.cX< -1)||decide (x.inst<0))=true then 2 else if(decide (x.day<0)||decide (x.day>36524))=true then 11 else if(decide (x.bd<0)||decide (x.bd≥af))=true then 9 else if(bj x.calls stops 0 3155932800).2=0 then(if bD x∈(l.map bD).take k then 6 else 0)else(bj x.calls stops 0 3155932800).2
def gh(l:List bp)(stops af:Int):Int×Int:=if l.length>1024 then(0,5)else bS (jb l stops af) l.length
theorem LD(N:ag)(l:List bp)(hl:l.length≤maxLen∧∀y∈l,y.Ok)(k:Nat)(hk:k<l.length)(rec:PW→Option PV):fQ (l.map bp.pv,(l.length:Int),(k:Int),N.stops.map Stop.pv,N.af.map ax.pv,l.map bp.pv,N.ah.map aD.pv,N.paths.map Path.pv,N.aw.map aS.pv,N.aQ,N.within,N.cap,0,0,0,seen HS ((l.map bD).take k),()) rec=c8 (if jb l N.stops.length N.af.length k=0 then none else some (some (r3 2 k (jb l N.stops.length N.af.length k)))) (rec (l.map bp.pv,(l.length:Int),((k+1:Nat):Int),N.stops.map Stop.pv,N.af.map ax.pv,l.map bp.pv,N.ah.map aD.pv,N.paths.map Path.pv,N.aw.map aS.pv,N.aQ,N.within,N.cap,0,0,0,seen HS ((l.map bD).take (k+1)),())):=by
 have hm:=aT;have h1:decide ((k:Int)<(l.length:Int))=true:=by simp;omega
 have hO:=hl.2 _ (List.getElem_mem hk);have hid:=uD l[k].id hO.id;have eR:=oh l[k].calls N.stops.length 0 3155932800 hO.calls.1;simp only[res]at eR;have qN:eM (.agg [.str l[k].id,.int .i64 l[k].day,.int .i64 l[k].inst]) (.bool true) (seen HS ((l.map bD).take k))=_:=nd S2 (bD l[k]) ((l.map bD).take k);have rT:dH (.agg [.str l[k].id,.int .i64 l[k].day,.int .i64 l[k].inst]) (.bool false) (seen HS ((l.map bD).take k))=_:=kQ S2 (bD l[k]) ((l.map bD).take k);unfold fQ;dsimp only;rw[if_pos h1,aq,List.getElem?_map,List.getElem?_eq_getElem hk];simp only[Option.map_some,U,VO,Ly,Lz,LA,VP,AV,bg,asInt,asBool,ab,if_true,List.length_map,hid,eR,bJ,List.length_cons,List.length_nil,Nat.reduceAdd,List.getD_cons_zero,List.getD_cons_succ,aW,jw,qN,rT,CI,Oc,wS,vE,y9,pq bD l k hk,al (show k<9223372036854775807 by omega)];unfold jb;rw[List.getElem?_eq_getElem hk];simp only;generalize (decide (l[k].cX< -1)||decide (l[k].inst<0))=A;generalize (decide (l[k].day<0)||decide (l[k].day>36524))=B;generalize (decide (l[k].bd<0)||decide (l[k].bd≥(N.af.length:Int)))=C;generalize (bj l[k].calls N.stops.length 0 3155932800).2=e;cases dR l[k].id with
 |false=>rfl
 |true=>
  cases A with
  |true=>rfl
  |false=>
   cases B with
   |true=>rfl
   |false=>
    cases C with
    |true=>rfl
    |false=>
     simp only[Bool.not_true,Bool.false_eq_true,Bool.true_eq_false,if_false];by_cases he:e=0
     ·subst he;by_cases bO:bD l[k]∈(l.map bD).take k
      ·simp only[bO,if_true,decide_true,Bool.not_true,Bool.false_eq_true,if_false];rfl
      ·simp only[bO,if_true,decide_true,decide_false,Bool.not_true,Bool.false_eq_true,if_false];rfl
     ·simp only[he,if_false,if_true,decide_false,Bool.not_false];rfl
theorem FK(N:ag)(hl:N.runs.length≤maxLen∧∀y∈N.runs,y.Ok):dm [N.pv]=some (prt 2 (gh N.runs N.stops.length N.af.length)):=by
 have hm:=aT;simp only[dm,lz,nS,pC,pD,pE,pF,pG,pH,pI,pJ,pK,U,List.length_map];generalize GZ:N.runs=l at hl⊢;unfold gh;by_cases tw:l.length>1024
 ·rw[if_pos (by simp;omega),if_pos tw];rfl
 ·rw[if_neg (by simp;omega),if_neg tw];have hR:some (prt 2 (bS (jb l N.stops.length N.af.length) l.length))=if(bS (jb l N.stops.length N.af.length) l.length).2=0 then some (r3 0 0 0)else some (r3 2 (bS (jb l N.stops.length N.af.length) l.length).1 (bS (jb l N.stops.length N.af.length) l.length).2):=by
   unfold prt;by_cases h:(bS (jb l N.stops.length N.af.length) l.length).2=0
   ·rw[if_pos h,if_pos h]
   ·rw[if_neg h,if_neg h]
  rw[hR,←ir (jb l N.stops.length N.af.length) l.length (fun i e=>r3 2 i e)];refine aY (fun k=>(l.map bp.pv,(l.length:Int),(k:Int),N.stops.map Stop.pv,N.af.map ax.pv,l.map bp.pv,N.ah.map aD.pv,N.paths.map Path.pv,N.aw.map aS.pv,N.aQ,N.within,N.cap,0,0,0,seen HS ((l.map bD).take k),())) l.length _ (fun k hk rec=>LD N l hl k hk rec) (fun rec=>?_) ?_ rfl
  ·unfold fQ;dsimp only;rw[if_neg (by simp)];rfl
  ·have:=aP;omega
theorem LF(N:ag)(l:List bp)(hl:l.length≤maxLen)(i:Nat)(hi:i<l.length):bK.run nT ((i:Int),0,N.stops.map Stop.pv,N.af.map ax.pv,l.map bp.pv,N.ah.map aD.pv,N.paths.map Path.pv,N.aw.map aS.pv,N.aQ,N.within,N.cap,.int .i64 l[i].cX,.int .i64 l[i].day,.int .i64 l[i].inst,.str l[i].id,.int .i64 l[i].bd,.bool l[i].free,.bool l[i].q9,.rs 5 (l[i].calls.map an.pv),())=if bD l[i]∈(l.map bD).take i then some (.int .i64 6)else some (.int .i64 0):=by
 have hm:=aT;refine(px (fun k=>((i:Int),(k:Int),N.stops.map Stop.pv,N.af.map ax.pv,l.map bp.pv,N.ah.map aD.pv,N.paths.map Path.pv,N.aw.map aS.pv,N.aQ,N.within,N.cap,PV.int .i64 l[i].cX,PV.int .i64 l[i].day,PV.int .i64 l[i].inst,PV.str l[i].id,PV.int .i64 l[i].bd,PV.bool l[i].free,PV.bool l[i].q9,PV.rs 5 (l[i].calls.map an.pv),())) i (fun k=>decide ((l.map bD)[k]?=some (bD l[i]))) (no:=some (.int .i64 6)) (fin:=some (.int .i64 0)) (fun k hk rec=>?_) (fun rec=>?_) ?_ rfl).trans ?_
 ·have h1:decide ((k:Int)<(i:Int))=true:=by simp;omega
  have jJ:k<l.length:=by omega
  have hd:decide ((l.map bD)[k]?=some (bD l[i]))=(decide (l[k].id=l[i].id)&&decide (l[k].day=l[i].day)&&decide (l[k].inst=l[i].inst)):=by rw[Bool.eq_iff_iff];simp[List.getElem?_eq_getElem jJ,bD,and_assoc]
  rw[hd];unfold nT;dsimp only;rw[if_pos h1,aq,List.getElem?_map,List.getElem?_eq_getElem jJ];simp only[Option.map_some,U,Ly,Lz,LA,asInt,bg,if_true,al (show k<9223372036854775807 by omega),ef,cT]
 ·unfold nT;dsimp only;rw[if_neg (by simp)]
 ·have:=aP;omega
 ·rw[A8 _ _ (by simp;omega)];simp only[decide_eq_true_eq]
theorem VQ(N:ag)(hl:N.runs.length≤maxLen∧∀y∈N.runs,y.Ok)(k:Nat)(hk:k<N.runs.length):nf [N.pv,.int .i64 k]=some (.int .i64 (jb N.runs N.stops.length N.af.length k)):=by
 have hm:=aT;have hO:=hl.2 _ (List.getElem_mem hk);simp only[nf,y7,nS,pC,pD,pE,pF,pG,pH,pI,pJ,pK,U];generalize GZ:N.runs=l at hl hk hO⊢;have hO':l[k].Ok:=by subst GZ;exact hO
 have hid:=sQ l[k].id hO'.id;have eR:=y8 l[k].calls N.stops.length 0 3155932800 hO'.calls.1;have oV:=LF N l hl.1 k hk;simp only[asInt,if_true,U,aq,List.getElem?_map,List.getElem?_eq_getElem hk,Option.map_some,VO,Ly,Lz,LA,VP,Zj,Zk,AV,bg,asBool,ab,List.length_map,hid,eR,CE,aW,jw,oV];unfold jb;rw[List.getElem?_eq_getElem hk];simp only;have hB:(!(decide (l[k].day≥0)&&decide (l[k].day≤36524)))=(decide (l[k].day<0)||decide (l[k].day>36524)):=by rw[Bool.eq_iff_iff];simp only[Bool.or_eq_true,Bool.not_eq_true',Bool.and_eq_false_iff,decide_eq_true_eq,decide_eq_false_iff_not];omega
 rw[hB];generalize (decide (l[k].cX< -1)||decide (l[k].inst<0))=A;generalize (decide (l[k].day<0)||decide (l[k].day>36524))=B;generalize (decide (l[k].bd<0)||decide (l[k].bd≥(N.af.length:Int)))=C;generalize (bj l[k].calls N.stops.length 0 3155932800).2=e;cases dR l[k].id with
 |false=>rfl
 |true=>
  cases A with
  |true=>rfl
  |false=>
   cases B with
   |true=>rfl
   |false=>
    cases C with
    |true=>rfl
    |false=>
     simp only[Bool.not_true,Bool.false_eq_true,Bool.true_eq_false,if_false];by_cases he:e=0
     ·subst he;by_cases bO:bD l[k]∈(l.map bD).take k
      ·simp only[bO,if_true,decide_true,Bool.not_true,Bool.false_eq_true,if_false]
      ·simp only[bO,if_true,decide_true,Bool.not_true,Bool.false_eq_true,if_false]
     ·simp only[he,if_false,if_true,decide_false,Bool.not_false]
end Go.Ab.Tt
namespace Go.Ab.Tt
set_option maxRecDepth 100000
set_option linter.unusedVariables false
set_option linter.unusedSimpArgs false
def nx(p:List aD)(v:Int):Option Int:=p.foldl (fun o x=>if(x.stay&&decide (x.a=v))=true then some x.b else o) none
theorem Zl(v:Int):nx [] v=none:=rfl
theorem qw(p:List aD)(x:aD)(v:Int):nx (p++[x]) v=if(x.stay&&decide (x.a=v))=true then some x.b else nx p v:=by unfold nx;rw[List.foldl_append];rfl
def it(f:Int→Option Int):Nat→Int→Option Int
 |0,v=>some v
 |m+1,v=>(f v).bind (it f m)
theorem Oe(f:Int→Option Int)(m:Nat)(v:Int):it f (m+1) v=(it f m v).bind f:=by
 induction m generalizing v with
 |zero=>show(f v).bind (it f 0)=f v;cases h:f v<;>rfl
 |succ m ih=>
  show(f v).bind (it f (m+1))=((f v).bind (it f m)).bind f;cases h:f v with
  |none=>rfl
  |some w=>exact ih w
def lK(p:List aD)(a b:Int)(n:Nat):Bool:=(List.range n).any fun t=>decide (it (nx p) (t+1) a=some b)
def wU(f:Int→Option Int):Prop:=∃r:Int→Nat,∀v w,f v=some w→r w<r v
theorem LG:wU (nx []):=⟨fun _=>0,fun v w h=>by cases h⟩
variable{p:List aD}
theorem LH{v w:Int}(h:nx p v=some w):∃x∈p,x.stay=true∧x.a=v∧x.b=w:=by
 have key:∀n,n≤p.length→nx (p.take n) v=some w→∃x∈p,x.stay=true∧x.a=v∧x.b=w:=by
  intro n;induction n with
  |zero=>intro _ h;cases h
  |succ n ih=>
   intro hn h;have Pa:n<p.length:=by omega
   rw[List.take_succ_eq_append_getElem Pa,qw]at h;by_cases hc:(p[n].stay&&decide (p[n].a=v))=true
   ·rw[if_pos hc]at h;simp only[Bool.and_eq_true,decide_eq_true_eq]at hc;exact⟨p[n],List.getElem_mem Pa,hc.1,hc.2,by simpa using h⟩
   ·rw[if_neg hc]at h;exact ih (by omega) h
 exact key p.length (Nat.le_refl _) (by rw[List.take_length];exact h)
theorem LI{f:Int→Option Int}(hf:wU f)(S:List Int)(hS:∀v w,f v=some w→v∈S):∀m v,it f m v≠none→m≤S.length:=by
 obtain⟨r,hr⟩:=hf;induction hn:S.length generalizing S f r with
 |zero=>
  intro m v h;cases m with
  |zero=>omega
  |succ m=>
   exfalso;cases Zm:f v with
   |none=>exact h (by show(f v).bind _=none;rw[Zm];rfl)
   |some w=>have:=hS v w Zm;rw[List.length_eq_zero_iff.1 hn]at this;cases this
 |succ n ih=>
  intro m v h;cases m with
  |zero=>omega
  |succ m=>
   cases Zm:f v with
   |none=>exact absurd (by show(f v).bind _=none;rw[Zm];rfl) h
   |some w=>
    have hvS:=hS v w Zm;let g:Int→Option Int:=fun x=>if x=v then none else f x;have hg:∀x y,g x=some y→r y<r x:=fun x y VR=>by
     by_cases hx:x=v
     ·simp[g,hx]at VR
     ·simp only[g,hx,if_false]at VR;exact hr x y VR
    have hgS:∀x y,g x=some y→x∈S.erase v:=fun x y VR=>by
     by_cases hx:x=v
     ·simp[g,hx]at VR
     ·simp only[g,hx,if_false]at VR;exact(List.mem_erase_of_ne hx).2 (hS x y VR)
    have hlen:(S.erase v).length=n:=by rw[List.length_erase_of_mem hvS];omega
    have R9:∀k x,r x<r v→it g k x=it f k x:=by
     intro k;induction k with
     |zero=>intros;rfl
     |succ k Yn=>
      intro x hx;have hxv:x≠v:=fun h=>by subst h;omega
      show(g x).bind (it g k)=(f x).bind (it f k);have:g x=f x:=by simp[g,hxv]
      rw[this];cases hfx:f x with
      |none=>rfl
      |some y=>exact Yn y (by have:=hr x y hfx;omega)
    have hw:it f m w≠none:=by intro hc;apply h;show(f v).bind (it f m)=none;rw[Zm];exact hc
    have:=ih (S.erase v) hgS r hg hlen m w (by rw[R9 m w (hr v w Zm)];exact hw);omega
theorem FL(hp:wU (nx p)){m:Nat}(hm:p.length<m)(v:Int):it (nx p) m v=none:=by
 cases h:it (nx p) m v with
 |none=>rfl
 |some w=>have:=LI hp (p.map aD.a) (fun x y VR=>by obtain⟨l,h1,h2,h3,h4⟩:=LH VR;exact List.mem_map.2 ⟨l,h1,h3⟩) m v (by rw[h];exact fun h=>nomatch h);rw[List.length_map]at this;omega
theorem HT(hp:wU (nx p))(x:aD)(h:x.stay=false∨(x.a≠x.b∧nx p x.a=none∧lK p x.b x.a (p.length+1)=false)):wU (nx (p++[x])):=by
 cases hs:x.stay with
 |false=>obtain⟨r,hr⟩:=hp;refine⟨r,fun v w Of=>hr v w ?_⟩;rw[qw,hs,Bool.false_and,if_neg (by simp)]at Of;exact Of
 |true=>
  rw[hs]at h;rcases h with h|⟨ry,hna,S3⟩
  ·cases h
  have Dh:=hp;obtain⟨r,hr⟩:=hp;have yU:∀t,it (nx p) (t+1) x.b≠some x.a:=by
   intro t ht;by_cases bu:t<p.length+1
   ·unfold lK at S3;rw[List.any_eq_false]at S3;exact S3 t (by simpa using bu) (by simpa using ht)
   ·rw[FL Dh (by omega)]at ht;cases ht
  let R:Int→Prop:=fun v=>∃t,it (nx p) t v=some x.a;have hRb:¬R x.b:=fun⟨t,ht⟩=>by
   cases t with
   |zero=>exact ry (by simpa[it]using ht.symm)
   |succ t=>exact yU t ht
  refine⟨fun v=>open Classical in if R v then r v+r x.b+1 else r v,fun v w Of=>?_⟩;rw[qw,hs,Bool.true_and]at Of;by_cases hv:x.a=v
  ·rw[if_pos (by simpa using hv)]at Of;simp only[Option.some.injEq]at Of;subst Of;have hRv:R v:=⟨0,by show some v=some x.a;rw[hv]⟩;show(open Classical in if R x.b then r x.b+r x.b+1 else r x.b)<(open Classical in if R v then r v+r x.b+1 else r v);rw[if_neg hRb,if_pos hRv];omega
  ·rw[if_neg (by simpa using hv)]at Of;have bu:=hr v w Of;show(open Classical in if R w then r w+r x.b+1 else r w)<(open Classical in if R v then r v+r x.b+1 else r v);by_cases hw:R w
   ·have hRv:R v:=by obtain⟨t,ht⟩:=hw;exact⟨t+1,by show(nx p v).bind (it (nx p) t)=some x.a;rw[Of];exact ht⟩
    rw[if_pos hw,if_pos hRv];omega
   ·rw[if_neg hw];by_cases hRv:R v
    ·rw[if_pos hRv];omega
    ·rw[if_neg hRv];exact bu
end Go.Ab.Tt
namespace Go.Ab.Tt
set_option maxRecDepth 100000
set_option linter.unusedVariables false
set_option linter.unusedSimpArgs false
def qx(a:Int):PV:=.int .i64 a
def cn(x:aD):Int×Int×Int×Int:=(x.a,x.ac,x.b,x.bc)
def HU(x:Int×Int×Int×Int):PV:=.agg [.int .i64 x.1,.int .i64 x.2.1,.int .i64 x.2.2.1,.int .i64 x.2.2.2]
theorem S4(a b:Int×Int×Int×Int):cA (HU a).cells (HU b).cells=decide (a=b):=by obtain⟨a1,a2,a3,a4⟩:=a;obtain⟨b1,b2,b3,b4⟩:=b;rw[Bool.eq_iff_iff];simp[HU,PV.cells,cA,peq]
def wh(p:List aD):List (Int×PV):=p.foldl (fun m x=>if x.stay=true then wV x.a (.int .i64 x.b) m else m) []
theorem wW(p:List aD)(x:aD):wh (p++[x])=if x.stay=true then wV x.a (.int .i64 x.b) (wh p)else wh p:=by unfold wh;rw[List.foldl_append];rfl
def LJ(a:Int)(m:List (Int×PV)):Bool:=m.any fun x=>decide (a=x.1)
theorem Og(a:Int):∀m,ti (qx a) (td qx m)=LJ a m
 |[]=>rfl
 |(b,u)::r=>by have:=Og a r;simp only[td]at this;simp only[td,List.map_cons,ti,LJ,List.any_cons];rw[this];have:cA (qx a).cells (qx b).cells=decide (a=b):=xR a b;rw[this];rfl
theorem HV(a b:Int)(v:PV):∀m,LJ a (wV b v m)=(decide (a=b)||LJ a m)
 |[]=>by simp[LJ,wV]
 |(c,u)::r=>by
  have:=HV a b v r;simp only[LJ]at this⊢;by_cases h:b=c
  ·subst h;simp[wV]
  ·simp only[wV,h,if_false,List.any_cons,this];cases decide (a=c)<;>simp
theorem uE{A:Type}{P:List A→Prop}(h0:P [])(h1:∀p x,P p→P (p++[x]))(l:List A):P l:=by
 have key:∀n,n≤l.length→P (l.take n):=by
  intro n;induction n with
  |zero=>intro _;rw[List.take_zero];exact h0
  |succ n ih=>intro hn;rw[List.take_succ_eq_append_getElem (show n<l.length by omega)];exact h1 _ _ (ih (by omega))
 have:=key l.length (Nat.le_refl _);rw[List.take_length]at this;exact this
theorem PY(p:List aD)(v:Int):uF v (.int .i64 0) (wh p)=.int .i64 ((nx p v).getD 0):=by
 induction p using uE with
 |h0=>rfl
 |h1 p x ih=>
  rw[wW,qw];cases hs:x.stay with
  |false=>rw[if_neg (by simp),Bool.false_and,if_neg (by simp)];exact ih
  |true=>
   rw[if_pos rfl,zd,Bool.true_and];by_cases h:x.a=v
   ·rw[if_pos h.symm,if_pos (by simpa using h)];rfl
   ·rw[if_neg (fun hc=>h hc.symm),if_neg (by simpa using h)];exact ih
theorem S5(p:List aD)(v:Int):LJ v (wh p)=(nx p v).isSome:=by
 induction p using uE with
 |h0=>rfl
 |h1 p x ih=>
  rw[wW,qw];cases hs:x.stay with
  |false=>rw[if_neg (by simp),Bool.false_and,if_neg (by simp)];exact ih
  |true=>
   rw[if_pos rfl,HV,Bool.true_and];by_cases h:x.a=v
   ·rw[if_pos (by simpa using h)];simp[h]
   ·rw[if_neg (by simpa using h),ih];have:decide (v=x.a)=false:=by simpa using fun hc=>h hc.symm
    rw[this,Bool.false_or]
def ng(p:List aD):List (PV×PV):=td qx (wh p)
theorem wX(p:List aD)(v:Int):dH (.int .i64 v) (.int .i64 0) (ng p)=.int .i64 ((nx p v).getD 0):=by have:=CK (key:=qx) xR v (.int .i64 0) (wh p);rw[PY]at this;exact this
theorem ze(p:List aD)(v:Int):ti (.int .i64 v) (ng p)=(nx p v).isSome:=by have:=Og v (wh p);rw[S5]at this;exact this
theorem LK(p:List aD)(x:aD):ng (p++[x])=if x.stay=true then eM (.int .i64 x.a) (.int .i64 x.b) (ng p)else ng p:=by
 have:=FM (key:=qx) xR x.a (.int .i64 x.b) (wh p);unfold ng;rw[wW];by_cases h:x.stay=true
 ·rw[if_pos h,if_pos h];exact this.symm
 ·rw[if_neg h,if_neg h]
def jO(p:List aD):List Int:=(p.filter aD.stay).map aD.b
theorem LL(p:List aD)(x:aD):jO (p++[x])=if x.stay=true then jO p++[x.b]else jO p:=by unfold jO;by_cases h:x.stay=true<;>simp[List.filter_append,List.filter_cons,h]
theorem PZ(p:List aD)(v:Int):(nx p v).isSome=p.any fun y=>y.stay&&decide (y.a=v):=by
 induction p using uE with
 |h0=>rfl
 |h1 p x ih=>
  rw[qw,List.any_append,←ih];by_cases h:(x.stay&&decide (x.a=v))=true
  ·rw[if_pos h];simp only[List.any_cons,List.any_nil,h];simp
  ·rw[if_neg h];simp only[List.any_cons,List.any_nil,h];simp
theorem S6(p:List aD)(v:Int):decide (v∈jO p)=p.any fun y=>y.stay&&decide (y.b=v):=by
 rw[Bool.eq_iff_iff,decide_eq_true_eq];simp only[jO,decide_eq_true_eq,List.mem_map,List.mem_filter,List.any_eq_true,Bool.and_eq_true];constructor
 ·rintro⟨x,⟨h1,h2⟩,h3⟩;exact⟨x,h1,h2,h3⟩
 ·rintro⟨x,h1,h2,h3⟩;exact⟨x,⟨h1,h2⟩,h3⟩
def Zn(f:Int→Option Int)(a b:Int)(t:Nat):Option (Option PV):=(it f (t+1) a).elim (some (some (.bool false))) fun v=>if v=b then some (some (.bool true))else none
theorem LM(f:Int→Option Int)(b:Int)(n:Nat):∀a,it f (n+1) a=none→c8 ((List.range n).findSome? (Zn f a b)) (some (.bool false))=some (.bool ((List.range (n+1)).any fun t=>decide (it f (t+1) a=some b))):=by
 induction n with
 |zero=>intro a h;simp[c8,h]
 |succ n ih=>
  intro a h;rw[List.range_succ_eq_map (n:=n+1),List.range_succ_eq_map (n:=n),List.findSome?_cons,List.any_cons];have h0:it f (0+1) a=f a:=by show(f a).bind (it f 0)=f a;cases hf:f a<;>rfl
  unfold Zn;rw[h0];cases hf:f a with
  |none=>
   have hz:∀t,it f (t+1) a=none:=fun t=>by show(f a).bind _=none;rw[hf];rfl
   simp only[Option.elim,c8,List.any_map,Function.comp_def,hz];simp
  |some v=>
   have hs:∀t,it f (t+1+1) a=it f (t+1) v:=fun t=>by show(f a).bind _=_;rw[hf];rfl
   by_cases hv:v=b
   ·subst hv;simp only[Option.elim,if_true,c8,decide_true,Bool.true_or]
   ·have hd:decide (some v=some b)=false:=by simpa using hv
    simp only[Option.elim,if_neg hv,hd,Bool.false_or];have:=ih v (by rw[←hs];exact h);rw[List.findSome?_map,List.any_map];simp only[Function.comp_def,Nat.succ_eq_add_one,hs];rw[←List.range_succ_eq_map];exact this
theorem LN(p:List aD)(hp:wU (nx p))(hl:p.length≤maxLen)(a b:Int):eV [.rm 3 ((ng p).map fun x=>x.fst) ((ng p).map fun x=>x.snd),.int .i64 a,.int .i64 b]=some (.bool (lK p a b (p.length+1))):=by
 have hz:((ng p).map fun x=>x.fst).zip ((ng p).map fun x=>x.snd)=ng p:=by
  generalize ng p=m;induction m with
  |nil=>rfl
  |cons x m ih=>simp only[List.map_cons,List.zip_cons_cons,ih]
 simp only[eV,qQ,dO,if_true,asInt,U,hz,wX,ze];unfold lK;rw[←LM (nx p) b p.length a (FL hp (by omega) a)];refine aY (fun t=>(PV.rm 3 ((ng p).map fun x=>x.fst) ((ng p).map fun x=>x.snd),b,(it (nx p) (t+1) a).getD 0,(it (nx p) (t+1) a).isSome,())) p.length _ (fun t ht rec=>?_) (fun rec=>?_) (by have:=aP;omega) ?_
 ·unfold jn Zn;dsimp only;rw[Oe (nx p) (t+1) a];cases hv:it (nx p) (t+1) a with
  |none=>rfl
  |some v=>
   simp only[Option.isSome_some,Option.getD_some,if_true,ef,decide_eq_true_eq,Option.elim];by_cases VS:v=b
   ·rw[if_pos VS,if_pos VS];rfl
   ·rw[if_neg VS,if_neg VS];simp only[dO,if_true,hz,wX,ze,asInt,U,c8,Option.bind_some]
 ·unfold jn;dsimp only;rw[FL hp (by omega)];rfl
 ·show(_,b,(it (nx p) 1 a).getD 0,(it (nx p) 1 a).isSome,())=_;have:it (nx p) 1 a=nx p a:=by show(nx p a).bind _=_;cases nx p a<;>rfl
  rw[this]
def aB(runs:List bp)(a:Int):List an:=((runs[a.toNat]?).map bp.calls).getD []
def ff(cs:List an)(c:Int):Int:=((cs[c.toNat]?).map an.stop).getD 0
def uG(x:aD)(R:Int):Bool:= !(decide (x.a≥0)&&decide (x.a<R))|| !(decide (x.b≥0)&&decide (x.b<R))||decide (x.a=x.b)
def uH(x:aD)(A B:Int):Bool:= !(decide (x.ac≥0)&&decide (x.ac<A))|| !(decide (x.bc≥0)&&decide (x.bc<B))
def pM(p:List aD)(x:aD)(A:Int):Bool:=x.stay&&(!decide (x.ac+1=A)|| !decide (x.bc=0)||(nx p x.a).isSome||decide (x.b∈jO p)||lK p x.b x.a (p.length+1))
def cC(runs:List bp)(l:List aD)(k:Nat):Int:=match l[k]? with
 |none=>0
 |some x=>if uG x runs.length=true then 9 else if uH x (aB runs x.a).length (aB runs x.b).length=true then 9 else if ff (aB runs x.a) x.ac≠ff (aB runs x.b) x.bc then 13 else if pM (l.take k) x (aB runs x.a).length=true then 19 else if cn x∈(l.map cn).take k then 6 else 0
def hU(runs:List bp)(l:List aD):Int×Int:=if l.length>1024 then(0,5)else bS (cC runs l) l.length
theorem CL(runs:List bp)(l:List aD)(k:Nat)(hk:k≤l.length)(h:∀j,j<k→cC runs l j=0):wU (nx (l.take k))∧∀x∈l.take k,0≤x.a:=by
 induction k with
 |zero=>rw[List.take_zero];exact⟨LG,fun x hx=>by cases hx⟩
 |succ k ih=>
  have jJ:k<l.length:=by omega
  obtain⟨h1,h2⟩:=ih (by omega) fun j hj=>h j (by omega);have hz:=h k (by omega);unfold cC at hz;rw[List.getElem?_eq_getElem jJ]at hz;simp only at hz;have hr:uG l[k] runs.length=false:=by
   cases hr:uG l[k] runs.length with
   |false=>rfl
   |true=>rw[hr,if_pos rfl]at hz;cases hz
  have hs:pM (l.take k) l[k] (aB runs l[k].a).length=false:=by
   cases hs:pM (l.take k) l[k] (aB runs l[k].a).length with
   |false=>rfl
   |true=>
    rw[hs]at hz;split at hz
    ·cases hz
    ·split at hz
     ·cases hz
     ·split at hz
      ·cases hz
      ·rw[if_pos rfl]at hz;cases hz
  unfold uG at hr;simp only[Bool.or_eq_false_iff,Bool.not_eq_false',Bool.and_eq_true,decide_eq_true_eq,decide_eq_false_iff_not]at hr;rw[List.take_succ_eq_append_getElem jJ];refine⟨HT h1 l[k] ?_,fun x hx=>?_⟩
  ·unfold pM at hs;cases tv:l[k].stay with
   |false=>exact Or.inl rfl
   |true=>
    rw[tv,Bool.true_and]at hs;simp only[Bool.or_eq_false_iff]at hs;refine Or.inr ⟨hr.2,?_,hs.2⟩;have:=hs.1.1.2;cases hn:nx (l.take k) l[k].a with
    |none=>rfl
    |some w=>rw[hn]at this;cases this
  ·rcases List.mem_append.1 hx with hx|hx
   ·exact h2 x hx
   ·rw[List.mem_singleton]at hx;subst hx;exact hr.1.1.1
theorem xS(runs:List bp)(a:Int)(h:0≤a∧a<(runs.length:Int)):∃r∈runs,aR (runs.map bp.pv) a=some r.pv∧aB runs a=r.calls:=by
 obtain⟨n,rfl⟩:=Int.eq_ofNat_of_zero_le h.1;have hn:n<runs.length:=by omega
 refine⟨runs[n],List.getElem_mem hn,?_,?_⟩
 ·rw[aq,List.getElem?_map,List.getElem?_eq_getElem hn];rfl
 ·unfold aB;rw[Int.toNat_natCast,List.getElem?_eq_getElem hn];rfl
theorem vF(cs:List an)(c:Int)(h:0≤c∧c<(cs.length:Int)):∃r,aR (cs.map an.pv) c=some r∧cell r 0=.int .i64 (ff cs c):=by
 obtain⟨n,rfl⟩:=Int.eq_ofNat_of_zero_le h.1;have hn:n<cs.length:=by omega
 refine⟨cs[n].pv,?_,?_⟩
 ·rw[aq,List.getElem?_map,List.getElem?_eq_getElem hn];rfl
 ·unfold ff;rw[Int.toNat_natCast,List.getElem?_eq_getElem hn];rfl
end Go.Ab.Tt
namespace Go.Ab.Tt
set_option maxRecDepth 100000
set_option linter.unusedVariables false
set_option linter.unusedSimpArgs false
theorem uI{runs:List bp}(h:∀y∈runs,y.Ok)(a:Int):(aB runs a).length≤maxLen:=by
 unfold aB;cases hr:runs[a.toNat]? with
 |none=>simp
 |some r=>exact(h r (List.mem_of_getElem? hr)).calls.1
theorem HW(N:ag)(runs:List bp)(hr:∀y∈runs,y.Ok)(l:List aD)(hl:l.length≤maxLen)(k:Nat)(hk:k<l.length)(vL:∀j,j<k→cC runs l j=0)(rec:TY0→Option PV):fG (l.map aD.pv,(l.length:Int),(k:Int),N.stops.map Stop.pv,N.af.map ax.pv,runs.map bp.pv,l.map aD.pv,N.paths.map Path.pv,N.aw.map aS.pv,N.aQ,N.within,N.cap,0,0,0,ng (l.take k),seen qx (jO (l.take k)),seen HU ((l.map cn).take k),()) rec=c8 (if cC runs l k=0 then none else some (some (r3 3 k (cC runs l k)))) (rec (l.map aD.pv,(l.length:Int),((k+1:Nat):Int),N.stops.map Stop.pv,N.af.map ax.pv,runs.map bp.pv,l.map aD.pv,N.paths.map Path.pv,N.aw.map aS.pv,N.aQ,N.within,N.cap,0,0,0,ng (l.take (k+1)),seen qx (jO (l.take (k+1))),seen HU ((l.map cn).take (k+1)),())):=by
 have hm:=aT;have h1:decide ((k:Int)<(l.length:Int))=true:=by simp;omega
 obtain⟨aa5,_⟩:=CL runs l k (by omega) vL;have hlen:(l.take k).length=k:=by simp;omega
 have zf:=LN (l.take k) aa5 (by omega) l[k].b l[k].a;have qN:eM (.agg [.int .i64 l[k].a,.int .i64 l[k].ac,.int .i64 l[k].b,.int .i64 l[k].bc]) (.bool true) (seen HU ((l.map cn).take k))=_:=nd S4 (cn l[k]) ((l.map cn).take k);have rT:dH (.agg [.int .i64 l[k].a,.int .i64 l[k].ac,.int .i64 l[k].b,.int .i64 l[k].bc]) (.bool false) (seen HU ((l.map cn).take k))=_:=kQ S4 (cn l[k]) ((l.map cn).take k);have aa6:eM (.int .i64 l[k].b) (.bool true) (seen qx (jO (l.take k)))=_:=nd (key:=qx) xR l[k].b (jO (l.take k));have Zo:dH (.int .i64 l[k].b) (.bool false) (seen qx (jO (l.take k)))=_:=kQ (key:=qx) xR l[k].b (jO (l.take k));have hsn:l.take (k+1)=l.take k++[l[k]]:=List.take_succ_eq_append_getElem hk;unfold fG;dsimp only;rw[if_pos h1,aq,List.getElem?_map,List.getElem?_eq_getElem hk,hsn,LK,LL,pq cn l k hk];simp only[Option.map_some,U,CH,HH,link2,HI,Et,asInt,asBool,if_true,List.length_map,wT,aW,ef];unfold cC;rw[List.getElem?_eq_getElem hk];simp only;have hR:(!(decide (l[k].a≥0)&&decide (l[k].a<(runs.length:Int)))|| !(decide (l[k].b≥0)&&decide (l[k].b<(runs.length:Int)))||decide (l[k].a=l[k].b))=uG l[k] runs.length:=rfl;rw[hR];cases hb:uG l[k] runs.length with
 |true=>simp only[if_true,CI,U,Oc,wS,vE,y9];rfl
 |false=>
  unfold uG at hb;simp only[Bool.or_eq_false_iff,Bool.not_eq_false',Bool.and_eq_true,decide_eq_true_eq,decide_eq_false_iff_not]at hb;obtain⟨ra,hra,hia,Yx⟩:=xS runs l[k].a ⟨hb.1.1.1,hb.1.1.2⟩;obtain⟨rb,Jp,WW,GA⟩:=xS runs l[k].b ⟨hb.1.2.1,hb.1.2.2⟩;have hA:=uI hr l[k].a;rw[hia,WW];simp only[U,AV,ab,if_true,List.length_map,←Yx,←GA,wT,asBool,aW];have hC:(!(decide (l[k].ac≥0)&&decide (l[k].ac<((aB runs l[k].a).length:Int)))|| !(decide (l[k].bc≥0)&&decide (l[k].bc<((aB runs l[k].b).length:Int))))=uH l[k] (aB runs l[k].a).length (aB runs l[k].b).length:=rfl;rw[hC];cases Cy:uH l[k] (aB runs l[k].a).length (aB runs l[k].b).length with
  |true=>simp only[if_true,CI,U,Oc,wS,vE,y9];rfl
  |false=>
   unfold uH at Cy;simp only[Bool.or_eq_false_iff,Bool.not_eq_false',Bool.and_eq_true,decide_eq_true_eq]at Cy;obtain⟨ka,Yt,hsa⟩:=vF (aB runs l[k].a) l[k].ac Cy.1;obtain⟨kb,hkb,Yy⟩:=vF (aB runs l[k].b) l[k].bc Cy.2;have hw:IntKind.i64.wrap (l[k].ac+1)=l[k].ac+1:=fF (by omega) (by omega);simp only[Bool.false_eq_true,if_false,Yt,hkb,U,hsa,Yy,wX,ze,rT,Zo,qN,aa6,asInt,asBool,if_true,zf,hw,hlen,aW,cT,jw,CI,Oc,wS,vE,y9,al (show k<9223372036854775807 by omega)];have hS:(l[k].stay&&(!decide (l[k].ac+1=((aB runs l[k].a).length:Int))|| !decide (l[k].bc=0)||(nx (l.take k) l[k].a).isSome||decide (l[k].b∈jO (l.take k))||lK (l.take k) l[k].b l[k].a (k+1)))=pM (l.take k) l[k] (aB runs l[k].a).length:=by unfold pM;rw[hlen]
   rw[hS];generalize pM (l.take k) l[k] (aB runs l[k].a).length=S;by_cases tv:ff (aB runs l[k].a) l[k].ac=ff (aB runs l[k].b) l[k].bc
   ·simp only[tv,decide_true,Bool.not_true,Bool.false_eq_true,if_false,ne_eq,not_true];cases S with
    |true=>rfl
    |false=>
     by_cases bO:cn l[k]∈(l.map cn).take k
     ·simp only[bO,decide_true,if_true,Bool.false_eq_true,if_false];rfl
     ·simp only[bO,decide_false,if_true,Bool.false_eq_true,if_false];cases l[k].stay<;>rfl
   ·simp only[tv,decide_false,Bool.not_false,if_true,ne_eq,not_false_eq_true];rfl
theorem Dz(N:ag)(hr:N.runs.length≤maxLen∧∀y∈N.runs,y.Ok)(hl:N.ah.length≤maxLen):cv [N.pv]=some (prt 3 (hU N.runs N.ah)):=by
 have hm:=aT;simp only[cv,kA,nS,pC,pD,pE,pF,pG,pH,pI,pJ,pK,U,List.length_map];generalize GZ:N.ah=l at hl⊢;generalize ru:N.runs=runs at hr⊢;unfold hU;by_cases tw:l.length>1024
 ·rw[if_pos (by simp;omega),if_pos tw];rfl
 ·rw[if_neg (by simp;omega),if_neg tw];have hR:some (prt 3 (bS (cC runs l) l.length))=if(bS (cC runs l) l.length).2=0 then some (r3 0 0 0)else some (r3 3 (bS (cC runs l) l.length).1 (bS (cC runs l) l.length).2):=by
   unfold prt;by_cases h:(bS (cC runs l) l.length).2=0
   ·rw[if_pos h,if_pos h]
   ·rw[if_neg h,if_neg h]
  rw[hR,←ir (cC runs l) l.length (fun i e=>r3 3 i e)];refine re (fun k=>(l.map aD.pv,(l.length:Int),(k:Int),N.stops.map Stop.pv,N.af.map ax.pv,runs.map bp.pv,l.map aD.pv,N.paths.map Path.pv,N.aw.map aS.pv,N.aQ,N.within,N.cap,0,0,0,ng (l.take k),seen qx (jO (l.take k)),seen HU ((l.map cn).take k),())) l.length _ (fun k hk vL rec=>HW N runs hr.2 l hl k hk (fun j hj=>?_) rec) (fun _ rec=>?_) (by have:=aP;omega) rfl
  ·have:=vL j hj;by_cases h0:cC runs l j=0
   ·exact h0
   ·rw[if_neg h0]at this;cases this
  ·unfold fG;dsimp only;rw[if_neg (by simp)];rfl
theorem P0(N:ag)(i:Nat)(hi:i<N.ah.length)(hl:N.ah.length≤maxLen)(hp:∀x∈N.ah.take i,0≤x.a)(a b:Int)(hb:0≤b):jP [N.pv,.int .i64 i,.int .i64 a,.int .i64 b]=some (.bool (lK (N.ah.take i) a b (i+1))):=by
 have hm:=aT;simp only[jP,ue,nS,pC,pD,pE,pF,pG,pH,pI,pJ,pK,U];simp only[asInt,if_true,U];generalize GZ:N.ah=l at hl hi hp⊢;have afj:nx (l.take i) (-1)=none:=by
  cases hn:nx (l.take i) (-1)with
  |none=>rfl
  |some w=>obtain⟨x,hx,_,hxa,_⟩:=LH hn;have:=hp x hx;omega
 have tI:∀t,(nx (l.take i) ((it (nx (l.take i)) t a).getD (-1))).getD (-1)=(it (nx (l.take i)) (t+1) a).getD (-1):=by
  intro t;rw[Oe];cases it (nx (l.take i)) t a with
  |none=>simp only[Option.getD_none,Option.bind_none,afj]
  |some v=>rfl
 have oV:∀(c:Int)(t:Nat)eO,bK.run (lL eO) ((i:Int),c,b,(t:Int),-1,0,N.stops.map Stop.pv,N.af.map ax.pv,N.runs.map bp.pv,l.map aD.pv,N.paths.map Path.pv,N.aw.map aS.pv,N.aQ,N.within,N.cap,())=if(nx (l.take i) c).getD (-1)=b then some (.bool true)else eO ((i:Int),(nx (l.take i) c).getD (-1),b,IntKind.i64.wrap ((t:Int)+1),N.stops.map Stop.pv,N.af.map ax.pv,N.runs.map bp.pv,l.map aD.pv,N.paths.map Path.pv,N.aw.map aS.pv,N.aQ,N.within,N.cap,()):=by
  intro c t eO;refine br (fun k=>((i:Int),c,b,(t:Int),(nx (l.take k) c).getD (-1),(k:Int),N.stops.map Stop.pv,N.af.map ax.pv,N.runs.map bp.pv,l.map aD.pv,N.paths.map Path.pv,N.aw.map aS.pv,N.aQ,N.within,N.cap,())) i (fun k hk rec=>?_) (fun rec=>?_) (by have:=aP;omega) (by rw[List.take_zero,Zl];rfl)
  ·have h1:decide ((k:Int)<(i:Int))=true:=by simp;omega
   have jJ:k<l.length:=by omega
   unfold lL;dsimp only;rw[if_pos h1,aq,List.getElem?_map,List.getElem?_eq_getElem jJ,List.take_succ_eq_append_getElem jJ,qw];simp only[Option.map_some,U,CH,link2,Et,asInt,asBool,if_true,cT,ef,al (show k<9223372036854775807 by omega)];by_cases hc:(l[k].stay&&decide (l[k].a=c))=true
   ·rw[if_pos hc,if_pos hc];rfl
   ·rw[if_neg hc,if_neg hc]
  ·unfold lL;dsimp only;rw[if_neg (by simp)];simp only[ef,decide_eq_true_eq]
 unfold lK;have mo:bK.run (lM bK) ((i:Int),a,b,0,N.stops.map Stop.pv,N.af.map ax.pv,N.runs.map bp.pv,l.map aD.pv,N.paths.map Path.pv,N.aw.map aS.pv,N.aQ,N.within,N.cap,())=if((List.range (i+1)).any fun t=>decide (it (nx (l.take i)) (t+1) a=some b))=true then some (PV.bool true)else some (PV.bool false):=by
  refine px (fun t:Nat=>((i:Int),(it (nx (l.take i)) t a).getD (-1),b,(t:Int),N.stops.map Stop.pv,N.af.map ax.pv,N.runs.map bp.pv,l.map aD.pv,N.paths.map Path.pv,N.aw.map aS.pv,N.aQ,N.within,N.cap,())) (i+1) (fun t=>decide (it (nx (l.take i)) (t+1) a=some b)) (no:=some (PV.bool true)) (fin:=some (PV.bool false)) (fun t ht rec=>?_) (fun rec=>?_) (by have:=aP;omega) rfl
  ·have h1:decide ((t:Int)≤(i:Int))=true:=by simp;omega
   unfold lM;dsimp only;rw[if_pos h1,oV,tI,al (by omega)];cases hv:it (nx (l.take i)) (t+1) a with
   |none=>rw[if_neg (by simp only[Option.getD_none];omega),if_neg (by simp)]
   |some v=>
    by_cases VS:v=b
    ·rw[if_pos (by simpa using VS),if_pos (by simpa using VS)]
    ·rw[if_neg (by simpa using VS),if_neg (by simpa using VS)]
  ·unfold lM;dsimp only;rw[if_neg (by simp;omega)]
 rw[mo];cases(List.range (i+1)).any fun t=>decide (it (nx (l.take i)) (t+1) a=some b)<;>rfl
theorem P1(l:List aD)(P:aD→Bool)(k:Nat)(hk:k≤l.length):((List.range k).any fun j=>(l[j]?).elim false P)=(l.take k).any P:=by
 induction k with
 |zero=>rfl
 |succ k ih=>
  have jJ:k<l.length:=by omega
  rw[List.range_succ,List.any_append,ih (by omega),List.take_succ_eq_append_getElem jJ,List.any_append];simp only[List.any_cons,List.any_nil,List.getElem?_eq_getElem jJ,Option.elim]
theorem S7(N:ag)(hr:N.runs.length≤maxLen∧∀y∈N.runs,y.Ok)(hl:N.ah.length≤maxLen)(k:Nat)(hk:k<N.ah.length)(vL:∀j,j<k→cC N.runs N.ah j=0):lN [N.pv,.int .i64 k]=some (.int .i64 (cC N.runs N.ah k)):=by
 have hm:=aT;obtain⟨_,dK⟩:=CL N.runs N.ah k (by omega) vL;have zf:=fun a b hb=>P0 N k hk hl dK a b hb;have hE:=vN N;simp only[lN,wM,nS,pC,pD,pE,pF,pG,pH,pI,pJ,pK,U];rw[←vN N]at zf;generalize GZ:N.ah=l at hl hk dK zf⊢;generalize ru:N.runs=runs at hr zf⊢;have hw0:IntKind.i64.wrap ((runs.length:Int)-1)=(runs.length:Int)-1:=fF (by omega) (by omega);simp only[asInt,if_true,U,aq,List.getElem?_map,List.getElem?_eq_getElem hk,Option.map_some,CH,HH,link2,HI,Et,asBool,List.length_map,hw0,CE,aW,ef];unfold cC;rw[List.getElem?_eq_getElem hk];simp only;have hR:(!(decide (l[k].a≥0)&&decide (l[k].a≤(runs.length:Int)-1))|| !(decide (l[k].b≥0)&&decide (l[k].b≤(runs.length:Int)-1))||decide (l[k].a=l[k].b))=uG l[k] runs.length:=by unfold uG;rw[Bool.eq_iff_iff];simp only[Bool.or_eq_true,Bool.not_eq_true',Bool.and_eq_false_iff,decide_eq_true_eq,decide_eq_false_iff_not];omega
 rw[hR];cases hb:uG l[k] runs.length with
 |true=>simp only[if_true]
 |false=>
  unfold uG at hb;simp only[Bool.or_eq_false_iff,Bool.not_eq_false',Bool.and_eq_true,decide_eq_true_eq,decide_eq_false_iff_not]at hb;obtain⟨ra,hra,hia,Yx⟩:=xS runs l[k].a ⟨hb.1.1.1,hb.1.1.2⟩;obtain⟨rb,Jp,WW,GA⟩:=xS runs l[k].b ⟨hb.1.2.1,hb.1.2.2⟩;have hA:=uI hr.2 l[k].a;have hB:=uI hr.2 l[k].b;rw[hia,WW];simp only[U,AV,ab,if_true,List.length_map,←Yx,←GA];have hwA:IntKind.i64.wrap (((aB runs l[k].a).length:Int)-1)=((aB runs l[k].a).length:Int)-1:=fF (by omega) (by omega);have hwB:IntKind.i64.wrap (((aB runs l[k].b).length:Int)-1)=((aB runs l[k].b).length:Int)-1:=fF (by omega) (by omega);simp only[hwA,hwB,CE,asBool,U,aW];have hC:(!(decide (l[k].ac≥0)&&decide (l[k].ac≤((aB runs l[k].a).length:Int)-1))|| !(decide (l[k].bc≥0)&&decide (l[k].bc≤((aB runs l[k].b).length:Int)-1)))=uH l[k] (aB runs l[k].a).length (aB runs l[k].b).length:=by unfold uH;rw[Bool.eq_iff_iff];simp only[Bool.or_eq_true,Bool.not_eq_true',Bool.and_eq_false_iff,decide_eq_true_eq,decide_eq_false_iff_not];omega
  rw[hC];cases Cy:uH l[k] (aB runs l[k].a).length (aB runs l[k].b).length with
  |true=>simp only[if_true,Bool.false_eq_true,if_false]
  |false=>
   unfold uH at Cy;simp only[Bool.or_eq_false_iff,Bool.not_eq_false',Bool.and_eq_true,decide_eq_true_eq]at Cy;obtain⟨ka,Yt,hsa⟩:=vF (aB runs l[k].a) l[k].ac Cy.1;obtain⟨kb,hkb,Yy⟩:=vF (aB runs l[k].b) l[k].bc Cy.2;simp only[Bool.false_eq_true,if_false,Yt,hkb,U,hsa,Yy,asInt,asBool,if_true,aW,cT,jw];by_cases tv:ff (aB runs l[k].a) l[k].ac=ff (aB runs l[k].b) l[k].bc
   ·simp only[tv,decide_true,Bool.not_true,Bool.false_eq_true,if_false,ne_eq,not_true];have CM:bK.run mQ ((k:Int),0,N.stops.map Stop.pv,N.af.map ax.pv,runs.map bp.pv,l.map aD.pv,N.paths.map Path.pv,N.aw.map aS.pv,N.aQ,N.within,N.cap,.int .i64 l[k].a,.int .i64 l[k].ac,.int .i64 l[k].b,.int .i64 l[k].bc,.bool l[k].stay,())=if cn l[k]∈(l.map cn).take k then some (.int .i64 6)else some (.int .i64 0):=by
     refine(px (fun j=>((k:Int),(j:Int),N.stops.map Stop.pv,N.af.map ax.pv,runs.map bp.pv,l.map aD.pv,N.paths.map Path.pv,N.aw.map aS.pv,N.aQ,N.within,N.cap,PV.int .i64 l[k].a,PV.int .i64 l[k].ac,PV.int .i64 l[k].b,PV.int .i64 l[k].bc,PV.bool l[k].stay,())) k (fun j=>decide ((l.map cn)[j]?=some (cn l[k]))) (no:=some (.int .i64 6)) (fin:=some (.int .i64 0)) (fun j hj rec=>?_) (fun rec=>?_) (by have:=aP;omega) rfl).trans ?_
     ·have h1:decide ((j:Int)<(k:Int))=true:=by simp;omega
      have Gz:j<l.length:=by omega
      have hd:decide ((l.map cn)[j]?=some (cn l[k]))=(decide (l[j].a=l[k].a)&&decide (l[j].ac=l[k].ac)&&decide (l[j].b=l[k].b)&&decide (l[j].bc=l[k].bc)):=by rw[Bool.eq_iff_iff];simp[List.getElem?_eq_getElem Gz,cn,and_assoc]
      rw[hd];unfold mQ;dsimp only;rw[if_pos h1,aq,List.getElem?_map,List.getElem?_eq_getElem Gz];simp only[Option.map_some,U,CH,HH,link2,HI,asInt,if_true,al (show j<9223372036854775807 by omega),ef,cT]
     ·unfold mQ;dsimp only;rw[if_neg (by simp)]
     ·rw[A8 _ _ (by simp;omega)];simp only[decide_eq_true_eq]
    have afk:bK.run (mR bK) ((k:Int),0,N.stops.map Stop.pv,N.af.map ax.pv,runs.map bp.pv,l.map aD.pv,N.paths.map Path.pv,N.aw.map aS.pv,N.aQ,N.within,N.cap,.int .i64 l[k].a,.int .i64 l[k].ac,.int .i64 l[k].b,.int .i64 l[k].bc,.bool l[k].stay,())=if(l[k].stay&&((nx (l.take k) l[k].a).isSome||decide (l[k].b∈jO (l.take k))))=true then some (.int .i64 19)else if(l[k].stay&&lK (l.take k) l[k].b l[k].a (k+1))=true then some (.int .i64 19)else if cn l[k]∈(l.map cn).take k then some (.int .i64 6)else some (.int .i64 0):=by
     refine(px (fun j=>((k:Int),(j:Int),N.stops.map Stop.pv,N.af.map ax.pv,runs.map bp.pv,l.map aD.pv,N.paths.map Path.pv,N.aw.map aS.pv,N.aQ,N.within,N.cap,PV.int .i64 l[k].a,PV.int .i64 l[k].ac,PV.int .i64 l[k].b,PV.int .i64 l[k].bc,PV.bool l[k].stay,())) k (fun j=>(l[j]?).elim false fun y=>l[k].stay&&y.stay&&(decide (y.a=l[k].a)||decide (y.b=l[k].b))) (no:=some (.int .i64 19)) (fin:=if(l[k].stay&&lK (l.take k) l[k].b l[k].a (k+1))=true then some (.int .i64 19)else if cn l[k]∈(l.map cn).take k then some (.int .i64 6)else some (.int .i64 0)) (fun j hj rec=>?_) (fun rec=>?_) (by have:=aP;omega) rfl).trans ?_
     ·have h1:decide ((j:Int)<(k:Int))=true:=by simp;omega
      have Gz:j<l.length:=by omega
      rw[List.getElem?_eq_getElem Gz];unfold mR;dsimp only;rw[if_pos h1,aq,List.getElem?_map,List.getElem?_eq_getElem Gz];simp only[Option.map_some,U,CH,link2,Et,asInt,asBool,if_true,al (show j<9223372036854775807 by omega),ef,cT,aW,Option.elim];rfl
     ·unfold mR;dsimp only;rw[if_neg (by simp),CM];have:=zf l[k].b l[k].a (by have:=hb.1.1.1;omega);simp only[asBool,asInt,if_true,U,this,cT]
     ·rw[P1 l _ k (by omega)];have YW:((l.take k).any fun y=>l[k].stay&&y.stay&&(decide (y.a=l[k].a)||decide (y.b=l[k].b)))=(l[k].stay&&((nx (l.take k) l[k].a).isSome||decide (l[k].b∈jO (l.take k)))):=by
       rw[PZ,S6];cases l[k].stay with
       |false=>simp
       |true=>
        rw[Bool.eq_iff_iff];simp only[Bool.true_and,Bool.or_eq_true,List.any_eq_true,Bool.and_eq_true,decide_eq_true_eq];constructor
        ·rintro⟨x,h1,h2,h3|h3⟩
         ·exact Or.inl ⟨x,h1,h2,h3⟩
         ·exact Or.inr ⟨x,h1,h2,h3⟩
        ·rintro(⟨x,h1,h2,h3⟩|⟨x,h1,h2,h3⟩)
         ·exact⟨x,h1,h2,Or.inl h3⟩
         ·exact⟨x,h1,h2,Or.inr h3⟩
      rw[YW]
    rw[afk];have hlen:(l.take k).length=k:=by simp;omega
    have hac:decide (l[k].ac=((aB runs l[k].a).length:Int)-1)=decide (l[k].ac+1=((aB runs l[k].a).length:Int)):=by rw[Bool.eq_iff_iff];simp only[decide_eq_true_eq];omega
    rw[hac];unfold pM;rw[hlen];generalize (!decide (l[k].ac+1=((aB runs l[k].a).length:Int)))=X1;generalize (!decide (l[k].bc=0))=X2;generalize (nx (l.take k) l[k].a).isSome=X3;generalize decide (l[k].b∈jO (l.take k))=X4;generalize lK (l.take k) l[k].b l[k].a (k+1)=X5;by_cases bO:cn l[k]∈(l.map cn).take k
    ·simp only[bO,if_true];cases l[k].stay<;>cases X1<;>cases X2<;>cases X3<;>cases X4<;>cases X5<;>rfl
    ·simp only[bO,if_false];cases l[k].stay<;>cases X1<;>cases X2<;>cases X3<;>cases X4<;>cases X5<;>rfl
   ·simp only[tv,decide_false,Bool.not_false,if_true,ne_eq,not_false_eq_true,Bool.false_eq_true,if_false]
end Go.Ab.Tt
namespace Go.Ab.Tt
set_option maxRecDepth 100000
set_option linter.unusedVariables false
set_option linter.unusedSimpArgs false
def dp(N:ag):Int×Int×Int:=
 if(gQ N.stops).2=0 then
  if(fB N.af).2=0 then
   if(gh N.runs N.stops.length N.af.length).2=0 then
    if(hU N.runs N.ah).2=0 then
     if(cU N.paths N.stops.length).2=0 then if(dF N.aw N.aQ N.within N.cap).2=0 then(0,0,0)else(5,dF N.aw N.aQ N.within N.cap)
     else(4,cU N.paths N.stops.length)
    else(3,hU N.runs N.ah)
   else(2,gh N.runs N.stops.length N.af.length)
  else(1,fB N.af)
 else(0,gQ N.stops)
def gb(x:Int×Int×Int):PV:=.aZ [.int .i64 x.1,.int .i64 x.2.1,.int .i64 x.2.2]
theorem r3E(p i e:Int):PV.agg [cell (r3 p i e) 0,cell (r3 p i e) 1,cell (r3 p i e) 2]=r3 p i e:=rfl
theorem Xm(p i e:Int):PV.agg [.int .i64 p,.int .i64 i,.int .i64 e]=r3 p i e:=rfl
theorem uJ(p i e q j f:Int):cH [.rs 3 [r3 p i e,r3 q j f]]=some (if e=0 then(if f=0 then r3 0 0 0 else r3 q j f)else r3 p i e):=by
 simp only[cH,qZ,ab,if_true,U];have h0:=aY (body:=gu) (fun k=>([r3 p i e,r3 q j f],(2:Int),(k:Int),0,0,0,())) 2 (fun k=>if k=0 then(if e=0 then none else some (some (r3 p i e)))else(if f=0 then none else some (some (r3 q j f)))) (fin:=some (r3 0 0 0)) (fun k hk rec=>?_) (fun rec=>?_) (by decide) (s0:=([r3 p i e,r3 q j f],(2:Int),0,0,0,0,())) rfl
 ·refine h0.trans ?_;have:List.range 2=[0,1]:=rfl;rw[this];by_cases he:e=0
  ·by_cases hf:f=0<;>simp[he,hf,c8]
  ·simp[he,c8]
 ·have h2:k=0∨k=1:=by omega
  rcases h2 with rfl|rfl
  ·unfold gu;dsimp only;rw[if_pos (by simp),aq];simp only[List.getElem?_cons_zero,U,y9,asInt,if_true,jw,r3E,al (show 0<9223372036854775807 by omega)];by_cases he:e=0
   ·simp only[he,decide_true,Bool.not_true,Bool.false_eq_true,if_false,if_true];rfl
   ·simp only[he,decide_false,Bool.not_false,if_false,if_true];rfl
  ·unfold gu;dsimp only;rw[if_pos (by simp),aq];simp only[List.getElem?_cons_succ,List.getElem?_cons_zero,U,y9,asInt,if_true,jw,r3E,al (show 1<9223372036854775807 by omega)];by_cases he:f=0
   ·simp only[he,decide_true,Bool.not_true,Bool.false_eq_true,if_false,if_true];rfl
   ·simp only[he,decide_false,Bool.not_false,if_false,if_true];rfl
 ·unfold gu;dsimp only;rw[if_neg (by simp)];rfl
theorem LO(p:Int)(x:Int×Int):prt p x=if x.2=0 then r3 0 0 0 else r3 p x.1 x.2:=rfl
theorem zg{l:List Stop}(h:(gQ l).2=0):l.length≤64:=by
 unfold gQ at h;by_cases tw:l.length>64
 ·rw[if_pos tw]at h;cases h
 ·omega
theorem Au(a b:Int):(a==b)=decide (a=b):=ef a b
theorem CN(N:ag)(h:N.Ok)(hp:N.paths.length≤4096):dZ [N.pv]=some (gb (dp N)):=by
 have hs:=PR N.stops h.stops;have hr:=Lu N.af h.af;have hu:=FK N h.runs;have hl:=Dz N h.runs h.ah.1;have hf:=Lw N.aw N.aQ N.within N.cap h.aw;unfold vD at hf;simp only[dZ,qS,nS,pC,pD,pE,pF,pG,pH,pI,pJ,pK,U,vN];simp only[hs,hr,hf,hu,hl,U,res,bJ,List.length_cons,List.length_nil,Nat.reduceAdd,if_true,List.getD_cons_zero,List.getD_cons_succ,CI,Oc,Xm,uJ];unfold dp;by_cases h1:(gQ N.stops).2=0
 ·have hpa:=Dx N (zg h1) hp;simp only[hpa,U,h1,if_true];by_cases h2:(fB N.af).2=0
  ·simp only[h2,if_true];rw[LO 2,LO 3,LO 4];by_cases h3:(gh N.runs N.stops.length N.af.length).2=0
   ·simp only[h3,if_true];by_cases h4:(hU N.runs N.ah).2=0
    ·simp only[h4,if_true];by_cases h5:(cU N.paths N.stops.length).2=0
     ·simp only[h5,if_true];by_cases h6:(dF N.aw N.aQ N.within N.cap).2=0
      ·simp only[h6,if_true,Oc,Xm,wS,vE,y9,asInt,U,uJ,Au,decide_true,decide_false,Bool.false_eq_true,gb]
      ·simp only[h6,if_true,if_false,Oc,Xm,wS,vE,y9,asInt,U,uJ,Au,decide_true,decide_false,Bool.false_eq_true,gb]
     ·simp only[h5,if_true,if_false,Oc,Xm,wS,vE,y9,asInt,U,uJ,Au,decide_true,decide_false,Bool.false_eq_true,gb]
    ·simp only[h4,if_true,if_false,Oc,Xm,wS,vE,y9,asInt,U,uJ,Au,decide_true,decide_false,Bool.false_eq_true,gb]
   ·simp only[h3,if_true,if_false,Oc,Xm,wS,vE,y9,asInt,U,uJ,Au,decide_true,decide_false,Bool.false_eq_true,gb]
  ·simp only[h2,if_true,if_false,Oc,Xm,wS,vE,y9,asInt,U,uJ,Au,decide_true,decide_false,Bool.false_eq_true,gb]
 ·simp only[h1,if_true,if_false,Oc,Xm,wS,vE,y9,asInt,U,uJ,Au,decide_true,decide_false,Bool.false_eq_true,gb]
theorem FN(N:ag)(h:N.Ok)(hn:N.stops.length≤64)(hp:N.paths.length≤4096):bK.run lO (0,N.stops.map Stop.pv,N.af.map ax.pv,N.runs.map bp.pv,N.ah.map aD.pv,N.paths.map Path.pv,N.aw.map aS.pv,N.aQ,N.within,N.cap,())=some (gb (if(bS (cC N.runs N.ah) N.ah.length).2=0 then
  if(cU N.paths N.stops.length).2=0 then if(dF N.aw N.aQ N.within N.cap).2=0 then(0,0,0)else(5,dF N.aw N.aQ N.within N.cap)
  else(4,cU N.paths N.stops.length)
 else(3,bS (cC N.runs N.ah) N.ah.length))):=by
 have hm:=aT
 have RR:=h.ah.1
 have hpa:=PX N hn hp
 have hf:=PT N.aw N.aQ N.within N.cap h.aw
 unfold vD at hf
 have hg:=ir (cC N.runs N.ah) N.ah.length (fun i e=>gb (3,i,e)) (some (gb (if(cU N.paths N.stops.length).2=0 then if(dF N.aw N.aQ N.within N.cap).2=0 then(0,0,0)else(5,dF N.aw N.aQ N.within N.cap)else(4,cU N.paths N.stops.length))))
 have hR:(if(bS (cC N.runs N.ah) N.ah.length).2=0 then(some (gb (if(cU N.paths N.stops.length).2=0 then if(dF N.aw N.aQ N.within N.cap).2=0 then(0,0,0)else(5,dF N.aw N.aQ N.within N.cap)else(4,cU N.paths N.stops.length))))else some (gb (3,(bS (cC N.runs N.ah) N.ah.length).1,(bS (cC N.runs N.ah) N.ah.length).2)))=some (gb (if(bS (cC N.runs N.ah) N.ah.length).2=0 then
   if(cU N.paths N.stops.length).2=0 then if(dF N.aw N.aQ N.within N.cap).2=0 then(0,0,0)else(5,dF N.aw N.aQ N.within N.cap)
   else(4,cU N.paths N.stops.length)
  else(3,bS (cC N.runs N.ah) N.ah.length))):=by
  by_cases hz:(bS (cC N.runs N.ah) N.ah.length).2=0
  ·rw[if_pos hz,if_pos hz]
  ·rw[if_neg hz,if_neg hz]
 rw[←hR,←hg]
 refine re (fun k=>((k:Int),N.stops.map Stop.pv,N.af.map ax.pv,N.runs.map bp.pv,N.ah.map aD.pv,N.paths.map Path.pv,N.aw.map aS.pv,N.aQ,N.within,N.cap,())) N.ah.length _ (fun k hk vL rec=>?_) (fun _ rec=>?_) (by have:=aP;omega) rfl
 ·have aa7:∀j,j<k→cC N.runs N.ah j=0:=fun j hj=>by
   have:=vL j hj;by_cases h0:cC N.runs N.ah j=0
   ·exact h0
   ·rw[if_neg h0]at this;cases this
  have Vy:=S7 N h.runs RR k hk aa7;have h1:decide ((k:Int)<((N.ah.map aD.pv).length:Int))=true:=by simp;omega
  unfold lO;dsimp only;rw[if_pos h1,vN,Vy];simp only[U,asInt,if_true,jw,al (show k<9223372036854775807 by omega)];by_cases he:cC N.runs N.ah k=0
  ·simp only[he,decide_true,Bool.not_true,Bool.false_eq_true,if_false,if_true];rfl
  ·simp only[he,decide_false,Bool.not_false,if_false,if_true];rfl
 ·unfold lO;dsimp only;rw[if_neg (by simp),vN,hpa];simp only[U,res,bJ,List.length_cons,List.length_nil,Nat.reduceAdd,if_true,List.getD_cons_zero,List.getD_cons_succ,asInt,jw,hf];by_cases h5:(cU N.paths N.stops.length).2=0
  ·simp only[h5,decide_true,Bool.not_true,Bool.false_eq_true,if_false,if_true];by_cases h6:(dF N.aw N.aQ N.within N.cap).2=0
   ·simp only[h6,decide_true,Bool.not_true,Bool.false_eq_true,if_false,if_true,gb]
   ·simp only[h6,decide_false,Bool.not_false,Bool.false_eq_true,if_false,if_true,gb]
  ·simp only[h5,decide_false,Bool.not_false,Bool.false_eq_true,if_false,if_true,gb]
theorem P2(N:ag)(h:N.Ok)(hp:N.paths.length≤4096):jQ [N.pv]=some (gb (dp N)):=by
 have hm:=aT;have cM:4096≤maxLen:=by decide
 have hs:=PS N.stops h.stops;have hr:=Lv N.af h.af;simp only[jQ,uj,nS,pC,pD,pE,pF,pG,pH,pI,pJ,pK,U];simp only[hs,hr,U,res,bJ,List.length_cons,List.length_nil,Nat.reduceAdd,if_true,List.getD_cons_zero,List.getD_cons_succ,asInt,jw];unfold dp;by_cases h1:(gQ N.stops).2=0
 ·have ta:=FN N h (zg h1) hp;simp only[h1,decide_true,Bool.not_true,Bool.false_eq_true,if_false,if_true];by_cases h2:(fB N.af).2=0
  ·simp only[h2,decide_true,Bool.not_true,Bool.false_eq_true,if_false,if_true];unfold gh;by_cases tw:N.runs.length>1024
   ·rw[if_pos (by simp;omega),if_pos tw];rfl
   ·rw[if_neg (by simp;omega),if_neg tw];generalize hE:jb N.runs N.stops.length N.af.length=E;generalize hF:(if(hU N.runs N.ah).2=0 then
     if(cU N.paths N.stops.length).2=0 then if(dF N.aw N.aQ N.within N.cap).2=0 then((0:Int),(0:Int),(0:Int))else(5,dF N.aw N.aQ N.within N.cap)
     else(4,cU N.paths N.stops.length)
    else(3,hU N.runs N.ah))=F
    have hg:=ir E N.runs.length (fun i e=>gb (2,i,e)) (some (gb F));have hR:(if(bS E N.runs.length).2=0 then some (gb F)else some (gb (2,(bS E N.runs.length).1,(bS E N.runs.length).2)))=some (gb (if(bS E N.runs.length).2=0 then F else(2,bS E N.runs.length))):=by
     by_cases hz:(bS E N.runs.length).2=0
     ·rw[if_pos hz,if_pos hz]
     ·rw[if_neg hz,if_neg hz]
    rw[←hR,←hg];refine aY (fun k=>((k:Int),N.stops.map Stop.pv,N.af.map ax.pv,N.runs.map bp.pv,N.ah.map aD.pv,N.paths.map Path.pv,N.aw.map aS.pv,N.aQ,N.within,N.cap,())) N.runs.length _ (fun k hk rec=>?_) (fun rec=>?_) (by have:=aP;omega) rfl
    ·have AL:=VQ N h.runs k hk;rw[hE]at AL;have h1:decide ((k:Int)<((N.runs.map bp.pv).length:Int))=true:=by simp;omega
     unfold pN;dsimp only;rw[if_pos h1,vN,AL];simp only[U,asInt,if_true,jw,al (show k<9223372036854775807 by omega)];by_cases he:E k=0
     ·simp only[he,decide_true,Bool.not_true,Bool.false_eq_true,if_false,if_true];rfl
     ·simp only[he,decide_false,Bool.not_false,if_false,if_true];rfl
    ·unfold pN;dsimp only;rw[if_neg (by simp),←hF];unfold hU;by_cases Gy:N.ah.length>1024
     ·rw[if_pos (by simp;omega),if_pos Gy];rfl
     ·rw[if_neg (by simp;omega),if_neg Gy,ta]
  ·simp only[h2,decide_false,Bool.not_false,Bool.false_eq_true,if_false,if_true,gb]
 ·simp only[h1,decide_false,Bool.not_false,Bool.false_eq_true,if_false,if_true,gb]
end Go.Ab.Tt
namespace Go.Ab.Tt
set_option maxRecDepth 100000
set_option linter.unusedVariables false
set_option linter.unusedSimpArgs false
theorem LP{N:ag}(h:(dp N).2.2=0):∀k,k<N.runs.length→jb N.runs N.stops.length N.af.length k=0:=by
 unfold dp at h;by_cases h1:(gQ N.stops).2=0
 ·rw[if_pos h1]at h;by_cases h2:(fB N.af).2=0
  ·rw[if_pos h2]at h;by_cases h3:(gh N.runs N.stops.length N.af.length).2=0
   ·unfold gh at h3;by_cases tw:N.runs.length>1024
    ·rw[if_pos tw]at h3;cases h3
    ·rw[if_neg tw]at h3;exact(mD _ _).1 h3
   ·rw[if_neg h3]at h;exact absurd h h3
  ·rw[if_neg h2]at h;exact absurd h h2
 ·rw[if_neg h1]at h;exact absurd h h1
theorem uK{N:ag}(h:(dp N).2.2=0):∀r∈N.runs,(bj r.calls N.stops.length 0 3155932800).2=0:=by
 intro r hr;obtain⟨k,hk,rfl⟩:=List.getElem_of_mem hr;have:=LP h k hk;unfold jb at this;rw[List.getElem?_eq_getElem hk]at this;simp only at this;by_cases hc:(bj N.runs[k].calls N.stops.length 0 3155932800).2=0
 ·exact hc
 ·rw[if_neg hc]at this;split at this
  ·cases this
  ·split at this
   ·cases this
   ·split at this
    ·cases this
    ·split at this
     ·cases this
     ·exact absurd this hc
theorem uM{l:List an}{n a b:Int}(h:(bj l n a b).2=0):2≤l.length∧l.length≤32:=by
 unfold bj at h;by_cases hc:(decide ((l.length:Int)<2)||decide ((l.length:Int)>32))=true
 ·rw[if_pos hc]at h;cases h
 ·simp only[Bool.or_eq_true,decide_eq_true_eq,not_or]at hc;omega
theorem Av{l:List an}{n a b:Int}(h:(bj l n a b).2=0):∀k,k<l.length→lG l n a b k=0:=by
 unfold bj at h;by_cases hc:(decide ((l.length:Int)<2)||decide ((l.length:Int)>32))=true
 ·rw[if_pos hc]at h;cases h
 ·rw[if_neg hc]at h;exact(mD _ _).1 h
theorem pO{c:an}{p:Option an}{n a b:Int}(h:kR c p n a b=0):c.arr≤c.dep∧a≤c.arr∧c.dep≤b∧∀q,p=some q→q.dep≤c.arr:=by
 unfold kR at h;cases p with
 |none=>
  dsimp only at h;by_cases hA:(decide (c.stop<0)||decide (c.stop≥n))=true
  ·rw[if_pos hA]at h;cases h
  ·rw[if_neg hA,if_neg (by simp)]at h;by_cases hC:(decide (c.arr<a)||decide (c.arr>c.dep)||decide (c.dep>b)||false)=true
   ·rw[if_pos hC]at h;cases h
   ·simp only[Bool.or_eq_true,decide_eq_true_eq,not_or]at hC;exact⟨by omega,by omega,by omega,fun q hq=>by cases hq⟩
 |some r=>
  dsimp only at h;by_cases hA:(decide (c.stop<0)||decide (c.stop≥n))=true
  ·rw[if_pos hA]at h;cases h
  ·rw[if_neg hA]at h;by_cases hB:decide (r.stop=c.stop)=true
   ·rw[if_pos hB]at h;cases h
   ·rw[if_neg hB]at h;by_cases hC:(decide (c.arr<a)||decide (c.arr>c.dep)||decide (c.dep>b)||decide (c.arr<r.dep))=true
    ·rw[if_pos hC]at h;cases h
    ·simp only[Bool.or_eq_true,decide_eq_true_eq,not_or]at hC;exact⟨by omega,by omega,by omega,fun q hq=>by cases hq;omega⟩
end Go.Ab.Tt
namespace Go.Ab.Tt
set_option maxRecDepth 100000
set_option linter.unusedVariables false
set_option linter.unusedSimpArgs false
theorem Stop.peq(x y:Stop):cA [cell x.pv 0,cell x.pv 1,cell x.pv 2,cell x.pv 3] [cell y.pv 0,cell y.pv 1,cell y.pv 2,cell y.pv 3]=decide (x=y):=by cases x;cases y;rw[Bool.eq_iff_iff];simp[cell,Stop.pv,PV.cells,cA,Ab.peq]
theorem ax.peq(x y:ax):cA [cell x.pv 0,cell x.pv 1,cell x.pv 2] [cell y.pv 0,cell y.pv 1,cell y.pv 2]=decide (x=y):=by cases x;cases y;rw[Bool.eq_iff_iff];simp[cell,ax.pv,PV.cells,cA,Ab.peq]
theorem an.peq(x y:an):cA [cell x.pv 0,cell x.pv 1,cell x.pv 2,cell x.pv 3,cell x.pv 4] [cell y.pv 0,cell y.pv 1,cell y.pv 2,cell y.pv 3,cell y.pv 4]=decide (x=y):=by cases x;cases y;rw[Bool.eq_iff_iff];simp[cell,an.pv,PV.cells,cA,Ab.peq]
theorem aD.peq(x y:aD):cA [cell x.pv 0,cell x.pv 1,cell x.pv 2,cell x.pv 3,cell x.pv 4] [cell y.pv 0,cell y.pv 1,cell y.pv 2,cell y.pv 3,cell y.pv 4]=decide (x=y):=by cases x;cases y;rw[Bool.eq_iff_iff];simp[cell,aD.pv,PV.cells,cA,Ab.peq]
theorem Path.peq(x y:Path):cA [cell x.pv 0,cell x.pv 1,cell x.pv 2,cell x.pv 3] [cell y.pv 0,cell y.pv 1,cell y.pv 2,cell y.pv 3]=decide (x=y):=by cases x;cases y;rw[Bool.eq_iff_iff];simp[cell,Path.pv,PV.cells,cA,Ab.peq]
theorem aS.peq(x y:aS):cA [cell x.pv 0,cell x.pv 1,cell x.pv 2,cell x.pv 3,cell x.pv 4,cell x.pv 5] [cell y.pv 0,cell y.pv 1,cell y.pv 2,cell y.pv 3,cell y.pv 4,cell y.pv 5]=decide (x=y):=by cases x;cases y;rw[Bool.eq_iff_iff];simp[cell,aS.pv,PV.cells,cA,Ab.peq]
theorem qy{a b:Nat}:((a:Int) !=(b:Int))= !decide (a=b):=by rw[Bool.eq_iff_iff];simp;omega
theorem FO{c:Prop}[Decidable c]:(if c then some (PV.bool true)else some (PV.bool false))=some (PV.bool (decide c)):=by by_cases h:c<;>simp[h]
theorem qf(a b:List an)(ha:a.length≤maxLen):cg [.rs 5 (a.map an.pv),.rs 5 (b.map an.pv)]=some (.bool (decide (a=b))):=by
 have hm:=aT;simp only[cg,gO,ab,if_true,U,List.length_map];by_cases h:a.length=b.length
 ·rw[if_neg (by rw[qy];simp[h])];refine(aY (fun k=>(a.map an.pv,b.map an.pv,(a.length:Int),(k:Int),())) a.length (fun k=>if a[k]?=b[k]? then none else some (some (PV.bool false))) (fun k hk rec=>?_) (fin:=some (PV.bool true)) (fun rec=>?_) (by have:=aP;omega) rfl).trans ?_
  ·have h1:decide ((k:Int)<(a.length:Int))=true:=by simp;omega
   have jJ:k<b.length:=by omega
   unfold fH;dsimp only;try rw[List.length_map]
   rw[if_pos h1,aq,aq,List.getElem?_map,List.getElem?_map,List.getElem?_eq_getElem hk,List.getElem?_eq_getElem jJ];simp only[Option.map_some,U];rw[if_pos ⟨rfl,rfl⟩,an.peq,al (by omega)];by_cases he:a[k]=b[k]
   ·simp[he,c8]
   ·simp[he,c8]
  ·unfold fH;dsimp only;rw[if_neg (by simp)]
  ·exact(mP a b h (some (PV.bool false)) (some (PV.bool true))).trans FO
 ·rw[if_pos (by rw[qy];simp[h])];have:a≠b:=fun e=>h (by rw[e]);simp[this]
theorem FP(a b:List an)(ha:a.length≤maxLen):fR [.rs 5 (a.map an.pv),.rs 5 (b.map an.pv)]=some (.bool (decide (a=b))):=by
 have hm:=aT;simp only[fR,nE,ab,if_true,U,List.length_map];by_cases h:a.length=b.length
 ·rw[if_neg (by rw[qy];simp[h])];refine(aY (fun k=>(a.map an.pv,b.map an.pv,(k:Int),())) a.length (fun k=>if a[k]?=b[k]? then none else some (some (PV.bool false))) (fun k hk rec=>?_) (fin:=some (PV.bool true)) (fun rec=>?_) (by have:=aP;omega) rfl).trans ?_
  ·have h1:decide ((k:Int)<(a.length:Int))=true:=by simp;omega
   have jJ:k<b.length:=by omega
   unfold kD;dsimp only;try rw[List.length_map]
   rw[if_pos h1,aq,aq,List.getElem?_map,List.getElem?_map,List.getElem?_eq_getElem hk,List.getElem?_eq_getElem jJ];simp only[Option.map_some,U];rw[if_pos ⟨rfl,rfl⟩,an.peq,al (by omega)];by_cases he:a[k]=b[k]
   ·simp[he,c8]
   ·simp[he,c8]
  ·unfold kD;dsimp only;rw[if_neg (by simp)]
  ·exact(mP a b h (some (PV.bool false)) (some (PV.bool true))).trans FO
 ·rw[if_pos (by rw[qy];simp[h])];have:a≠b:=fun e=>h (by rw[e]);simp[this]
def uN(l:List aS)(d w c:Int):PV:=.agg [.rs 6 (l.map aS.pv),.int .i64 d,.int .i64 w,.int .i64 c]
theorem nU(a b:List aS)(d1 w1 c1 d2 w2 c2:Int)(ha:a.length≤maxLen):fS [uN a d1 w1 c1,uN b d2 w2 c2]=some (.bool (decide (d1=d2)&&decide (w1=w2)&&decide (c1=c2)&&decide (a=b))):=by
 have hm:=aT;have f0:∀l d w c,asAgg 4 (uN l d w c)=some ():=fun _ _ _ _=>rfl;have f1:∀l d w c,cell (uN l d w c) 0=.rs 6 (l.map aS.pv):=fun _ _ _ _=>rfl;have f2:∀l d w c,cell (uN l d w c) 1=.int .i64 d:=fun _ _ _ _=>rfl;have f3:∀l d w c,cell (uN l d w c) 2=.int .i64 w:=fun _ _ _ _=>rfl;have f4:∀l d w c,cell (uN l d w c) 3=.int .i64 c:=fun _ _ _ _=>rfl;simp only[fS,nG,f0,f1,f2,f3,f4,ab,asInt,if_true,U,List.length_map,qy,jw,aW];by_cases h:a.length=b.length
 ·by_cases e1:d1=d2
  ·by_cases e2:w1=w2
   ·by_cases e3:c1=c2
    ·rw[if_neg (by simp[h,e1,e2,e3])];simp only[e1,e2,e3,decide_true,Bool.true_and];refine(aY (fun k=>((k:Int),a.map aS.pv,d2,w2,c2,b.map aS.pv,d2,w2,c2,())) a.length (fun k=>if a[k]?=b[k]? then none else some (some (PV.bool false))) (fun k hk rec=>?_) (fin:=some (PV.bool true)) (fun rec=>?_) (by have:=aP;omega) rfl).trans ?_
     ·have h1:decide ((k:Int)<(a.length:Int))=true:=by simp;omega
      have jJ:k<b.length:=by omega
      unfold kE;dsimp only;try rw[List.length_map]
      rw[if_pos h1,aq,aq,List.getElem?_map,List.getElem?_map,List.getElem?_eq_getElem hk,List.getElem?_eq_getElem jJ];simp only[Option.map_some,U];rw[if_pos ⟨rfl,rfl⟩,aS.peq,al (by omega)];by_cases he:a[k]=b[k]
      ·simp[he,c8]
      ·simp[he,c8]
     ·unfold kE;dsimp only;rw[if_neg (by simp)]
     ·exact(mP a b h (some (PV.bool false)) (some (PV.bool true))).trans FO
    ·rw[if_pos (by simp[e3])];simp[e3]
   ·rw[if_pos (by simp[e2])];simp[e2]
  ·rw[if_pos (by simp[e1])];simp[e1]
 ·rw[if_pos (by
   have h':¬((a.length:Int)=(b.length:Int)):=by omega
   simp[h'])]
  have:a≠b:=fun e=>h (by rw[e]);simp[this]
theorem Oh(x y:bp):decide (x=y)=(decide (x.cX=y.cX)&&decide (x.day=y.day)&&decide (x.inst=y.inst)&&decide (x.id=y.id)&&decide (x.bd=y.bd)&&decide (x.free=y.free)&&decide (x.q9=y.q9)&&decide (x.calls=y.calls)):=by cases x;cases y;rw[Bool.eq_iff_iff];simp[and_assoc]
theorem qz(a b:List bp)(ha:a.length≤maxLen)(hc:∀x∈a,x.calls.length≤maxLen):gv [.rs 8 (a.map bp.pv),.rs 8 (b.map bp.pv)]=some (.bool (decide (a=b))):=by
 have hm:=aT;simp only[gv,pf,ab,if_true,U,List.length_map];by_cases h:a.length=b.length
 ·rw[if_neg (by rw[qy];simp[h])];refine(aY (fun k=>(a.map bp.pv,b.map bp.pv,(k:Int),())) a.length (fun k=>if a[k]?=b[k]? then none else some (some (PV.bool false))) (fun k hk rec=>?_) (fin:=some (PV.bool true)) (fun rec=>?_) (by have:=aP;omega) rfl).trans ?_
  ·have h1:decide ((k:Int)<(a.length:Int))=true:=by simp;omega
   have jJ:k<b.length:=by omega
   have eR:=FP a[k].calls b[k].calls (hc _ (List.getElem_mem hk));unfold lP;dsimp only;rw[List.length_map,if_pos h1,aq,aq,List.getElem?_map,List.getElem?_map,List.getElem?_eq_getElem hk,List.getElem?_eq_getElem jJ];simp only[Option.map_some,U,VO,Ly,Lz,LA,VP,Zj,Zk,AV,asInt,bg,asBool,ab,if_true,eR,aW,jw,ef,al (show k<9223372036854775807 by omega)];have hd:=Oh a[k] b[k];by_cases he:a[k]=b[k]
   ·simp[he,c8]
   ·rw[if_pos,if_neg (by simpa using he)]
    ·rfl
    ·rw[decide_eq_false he]at hd;revert hd;generalize decide (a[k].cX=b[k].cX)=x1;generalize decide (a[k].day=b[k].day)=x2;generalize decide (a[k].inst=b[k].inst)=x3;generalize decide (a[k].id=b[k].id)=x4;generalize decide (a[k].bd=b[k].bd)=x5;generalize decide (a[k].free=b[k].free)=x6;generalize decide (a[k].q9=b[k].q9)=x7;generalize decide (a[k].calls=b[k].calls)=x8;revert x1 x2 x3 x4 x5 x6 x7 x8;decide
  ·unfold lP;dsimp only;rw[if_neg (by simp)]
  ·exact(mP a b h (some (PV.bool false)) (some (PV.bool true))).trans FO
 ·rw[if_pos (by rw[qy];simp[h])];have:a≠b:=fun e=>h (by rw[e]);simp[this]
def eqN(A B:ag):Bool:=decide (A.stops=B.stops)&&decide (A.af=B.af)&&decide (A.ah=B.ah)&&decide (A.paths=B.paths)&&decide (A.runs=B.runs)&&(decide (A.aQ=B.aQ)&&decide (A.within=B.within)&&decide (A.cap=B.cap)&&decide (A.aw=B.aw))
theorem S8(A:ag):eqN A A=true:=by simp[eqN]
def LQ(A B:ag):Bool:=decide (A.runs=B.runs)&&(decide (A.aQ=B.aQ)&&decide (A.within=B.within)&&decide (A.cap=B.cap)&&decide (A.aw=B.aw))
theorem P3(A B:ag)(hA:A.Ok)(h:A.paths.length=B.paths.length):bK.run (gw) (0,A.stops.map Stop.pv,A.af.map ax.pv,A.runs.map bp.pv,A.ah.map aD.pv,A.paths.map Path.pv,A.aw.map aS.pv,A.aQ,A.within,A.cap,B.stops.map Stop.pv,B.af.map ax.pv,B.runs.map bp.pv,B.ah.map aD.pv,B.paths.map Path.pv,B.aw.map aS.pv,B.aQ,B.within,B.cap,())=if A.paths=B.paths then some (.bool (LQ A B))else some (.bool false):=by
 have hm:=aT;have hl:=hA.paths.1;have e1:=qz A.runs B.runs hA.runs.1 (fun x hx=>(hA.runs.2 x hx).calls.1);have e2:=nU A.aw B.aw A.aQ A.within A.cap B.aQ B.within B.cap hA.aw.1;unfold uN at e2;generalize tZ:(some (.bool (LQ A B)):Option PV)=fin;generalize ha:A.paths=a at h hl⊢;generalize hb:B.paths=b at h⊢;refine(aY (fun k=>((k:Int),A.stops.map Stop.pv,A.af.map ax.pv,A.runs.map bp.pv,A.ah.map aD.pv,a.map Path.pv,A.aw.map aS.pv,A.aQ,A.within,A.cap,B.stops.map Stop.pv,B.af.map ax.pv,B.runs.map bp.pv,B.ah.map aD.pv,b.map Path.pv,B.aw.map aS.pv,B.aQ,B.within,B.cap,())) a.length (fun k=>if a[k]?=b[k]? then none else some (some (PV.bool false))) (fun k hk rec=>?_) (fin:=fin) (fun rec=>?_) (by have:=aP;omega) rfl).trans ?_
 ·have h1:decide ((k:Int)<(a.length:Int))=true:=by simp;omega
  have jJ:k<b.length:=by omega
  unfold gw;dsimp only;try rw[List.length_map]
  rw[if_pos h1,aq,aq,List.getElem?_map,List.getElem?_map,List.getElem?_eq_getElem hk,List.getElem?_eq_getElem jJ];simp only[Option.map_some,U];rw[if_pos ⟨rfl,rfl⟩,Path.peq,al (by omega)];by_cases he:a[k]=b[k]
  ·simp[he,c8]
  ·simp[he,c8]
 ·subst ha;subst hb;rw[←tZ];unfold gw;dsimp only;rw[if_neg (by simp)];simp only[e1,e2,U,asBool,cT];rfl
 ·exact mP a b h _ _
theorem P4(A B:ag)(hA:A.Ok)(h:A.ah.length=B.ah.length):bK.run (gx bK) (0,A.stops.map Stop.pv,A.af.map ax.pv,A.runs.map bp.pv,A.ah.map aD.pv,A.paths.map Path.pv,A.aw.map aS.pv,A.aQ,A.within,A.cap,B.stops.map Stop.pv,B.af.map ax.pv,B.runs.map bp.pv,B.ah.map aD.pv,B.paths.map Path.pv,B.aw.map aS.pv,B.aQ,B.within,B.cap,())=if A.ah=B.ah then bK.run (gw) (0,A.stops.map Stop.pv,A.af.map ax.pv,A.runs.map bp.pv,A.ah.map aD.pv,A.paths.map Path.pv,A.aw.map aS.pv,A.aQ,A.within,A.cap,B.stops.map Stop.pv,B.af.map ax.pv,B.runs.map bp.pv,B.ah.map aD.pv,B.paths.map Path.pv,B.aw.map aS.pv,B.aQ,B.within,B.cap,())else some (.bool false):=by
 have hm:=aT;have hl:=hA.ah.1;have e1:=qz A.runs B.runs hA.runs.1 (fun x hx=>(hA.runs.2 x hx).calls.1);have e2:=nU A.aw B.aw A.aQ A.within A.cap B.aQ B.within B.cap hA.aw.1;unfold uN at e2;generalize tZ:(bK.run (gw) (0,A.stops.map Stop.pv,A.af.map ax.pv,A.runs.map bp.pv,A.ah.map aD.pv,A.paths.map Path.pv,A.aw.map aS.pv,A.aQ,A.within,A.cap,B.stops.map Stop.pv,B.af.map ax.pv,B.runs.map bp.pv,B.ah.map aD.pv,B.paths.map Path.pv,B.aw.map aS.pv,B.aQ,B.within,B.cap,()):Option PV)=fin;generalize ha:A.ah=a at h hl⊢;generalize hb:B.ah=b at h⊢;refine(aY (fun k=>((k:Int),A.stops.map Stop.pv,A.af.map ax.pv,A.runs.map bp.pv,a.map aD.pv,A.paths.map Path.pv,A.aw.map aS.pv,A.aQ,A.within,A.cap,B.stops.map Stop.pv,B.af.map ax.pv,B.runs.map bp.pv,b.map aD.pv,B.paths.map Path.pv,B.aw.map aS.pv,B.aQ,B.within,B.cap,())) a.length (fun k=>if a[k]?=b[k]? then none else some (some (PV.bool false))) (fun k hk rec=>?_) (fin:=fin) (fun rec=>?_) (by have:=aP;omega) rfl).trans ?_
 ·have h1:decide ((k:Int)<(a.length:Int))=true:=by simp;omega
  have jJ:k<b.length:=by omega
  unfold gx;dsimp only;try rw[List.length_map]
  rw[if_pos h1,aq,aq,List.getElem?_map,List.getElem?_map,List.getElem?_eq_getElem hk,List.getElem?_eq_getElem jJ];simp only[Option.map_some,U];rw[if_pos ⟨rfl,rfl⟩,aD.peq,al (by omega)];by_cases he:a[k]=b[k]
  ·simp[he,c8]
  ·simp[he,c8]
 ·subst ha;subst hb;rw[←tZ];unfold gx;dsimp only;rw[if_neg (by simp)]
 ·exact mP a b h _ _
theorem P5(A B:ag)(hA:A.Ok)(h:A.af.length=B.af.length):bK.run (gy bK) (0,A.stops.map Stop.pv,A.af.map ax.pv,A.runs.map bp.pv,A.ah.map aD.pv,A.paths.map Path.pv,A.aw.map aS.pv,A.aQ,A.within,A.cap,B.stops.map Stop.pv,B.af.map ax.pv,B.runs.map bp.pv,B.ah.map aD.pv,B.paths.map Path.pv,B.aw.map aS.pv,B.aQ,B.within,B.cap,())=if A.af=B.af then bK.run (gx bK) (0,A.stops.map Stop.pv,A.af.map ax.pv,A.runs.map bp.pv,A.ah.map aD.pv,A.paths.map Path.pv,A.aw.map aS.pv,A.aQ,A.within,A.cap,B.stops.map Stop.pv,B.af.map ax.pv,B.runs.map bp.pv,B.ah.map aD.pv,B.paths.map Path.pv,B.aw.map aS.pv,B.aQ,B.within,B.cap,())else some (.bool false):=by
 have hm:=aT;have hl:=hA.af.1;have e1:=qz A.runs B.runs hA.runs.1 (fun x hx=>(hA.runs.2 x hx).calls.1);have e2:=nU A.aw B.aw A.aQ A.within A.cap B.aQ B.within B.cap hA.aw.1;unfold uN at e2;generalize tZ:(bK.run (gx bK) (0,A.stops.map Stop.pv,A.af.map ax.pv,A.runs.map bp.pv,A.ah.map aD.pv,A.paths.map Path.pv,A.aw.map aS.pv,A.aQ,A.within,A.cap,B.stops.map Stop.pv,B.af.map ax.pv,B.runs.map bp.pv,B.ah.map aD.pv,B.paths.map Path.pv,B.aw.map aS.pv,B.aQ,B.within,B.cap,()):Option PV)=fin;generalize ha:A.af=a at h hl⊢;generalize hb:B.af=b at h⊢;refine(aY (fun k=>((k:Int),A.stops.map Stop.pv,a.map ax.pv,A.runs.map bp.pv,A.ah.map aD.pv,A.paths.map Path.pv,A.aw.map aS.pv,A.aQ,A.within,A.cap,B.stops.map Stop.pv,b.map ax.pv,B.runs.map bp.pv,B.ah.map aD.pv,B.paths.map Path.pv,B.aw.map aS.pv,B.aQ,B.within,B.cap,())) a.length (fun k=>if a[k]?=b[k]? then none else some (some (PV.bool false))) (fun k hk rec=>?_) (fin:=fin) (fun rec=>?_) (by have:=aP;omega) rfl).trans ?_
 ·have h1:decide ((k:Int)<(a.length:Int))=true:=by simp;omega
  have jJ:k<b.length:=by omega
  unfold gy;dsimp only;try rw[List.length_map]
  rw[if_pos h1,aq,aq,List.getElem?_map,List.getElem?_map,List.getElem?_eq_getElem hk,List.getElem?_eq_getElem jJ];simp only[Option.map_some,U];rw[if_pos ⟨rfl,rfl⟩,ax.peq,al (by omega)];by_cases he:a[k]=b[k]
  ·simp[he,c8]
  ·simp[he,c8]
 ·subst ha;subst hb;rw[←tZ];unfold gy;dsimp only;rw[if_neg (by simp)]
 ·exact mP a b h _ _
theorem P6(A B:ag)(hA:A.Ok)(h:A.stops.length=B.stops.length):bK.run (lQ bK) (0,A.stops.map Stop.pv,A.af.map ax.pv,A.runs.map bp.pv,A.ah.map aD.pv,A.paths.map Path.pv,A.aw.map aS.pv,A.aQ,A.within,A.cap,B.stops.map Stop.pv,B.af.map ax.pv,B.runs.map bp.pv,B.ah.map aD.pv,B.paths.map Path.pv,B.aw.map aS.pv,B.aQ,B.within,B.cap,())=if A.stops=B.stops then bK.run (gy bK) (0,A.stops.map Stop.pv,A.af.map ax.pv,A.runs.map bp.pv,A.ah.map aD.pv,A.paths.map Path.pv,A.aw.map aS.pv,A.aQ,A.within,A.cap,B.stops.map Stop.pv,B.af.map ax.pv,B.runs.map bp.pv,B.ah.map aD.pv,B.paths.map Path.pv,B.aw.map aS.pv,B.aQ,B.within,B.cap,())else some (.bool false):=by
 have hm:=aT;have hl:=hA.stops.1;have e1:=qz A.runs B.runs hA.runs.1 (fun x hx=>(hA.runs.2 x hx).calls.1);have e2:=nU A.aw B.aw A.aQ A.within A.cap B.aQ B.within B.cap hA.aw.1;unfold uN at e2;generalize tZ:(bK.run (gy bK) (0,A.stops.map Stop.pv,A.af.map ax.pv,A.runs.map bp.pv,A.ah.map aD.pv,A.paths.map Path.pv,A.aw.map aS.pv,A.aQ,A.within,A.cap,B.stops.map Stop.pv,B.af.map ax.pv,B.runs.map bp.pv,B.ah.map aD.pv,B.paths.map Path.pv,B.aw.map aS.pv,B.aQ,B.within,B.cap,()):Option PV)=fin;generalize ha:A.stops=a at h hl⊢;generalize hb:B.stops=b at h⊢;refine(aY (fun k=>((k:Int),a.map Stop.pv,A.af.map ax.pv,A.runs.map bp.pv,A.ah.map aD.pv,A.paths.map Path.pv,A.aw.map aS.pv,A.aQ,A.within,A.cap,b.map Stop.pv,B.af.map ax.pv,B.runs.map bp.pv,B.ah.map aD.pv,B.paths.map Path.pv,B.aw.map aS.pv,B.aQ,B.within,B.cap,())) a.length (fun k=>if a[k]?=b[k]? then none else some (some (PV.bool false))) (fun k hk rec=>?_) (fin:=fin) (fun rec=>?_) (by have:=aP;omega) rfl).trans ?_
 ·have h1:decide ((k:Int)<(a.length:Int))=true:=by simp;omega
  have jJ:k<b.length:=by omega
  unfold lQ;dsimp only;try rw[List.length_map]
  rw[if_pos h1,aq,aq,List.getElem?_map,List.getElem?_map,List.getElem?_eq_getElem hk,List.getElem?_eq_getElem jJ];simp only[Option.map_some,U];rw[if_pos ⟨rfl,rfl⟩,Stop.peq,al (by omega)];by_cases he:a[k]=b[k]
  ·simp[he,c8]
  ·simp[he,c8]
 ·subst ha;subst hb;rw[←tZ];unfold lQ;dsimp only;rw[if_neg (by simp)]
 ·exact mP a b h _ _
theorem P7(A B:ag)(hA:A.Ok):fk [A.pv,B.pv]=some (.bool (eqN A B)):=by
 simp only[fk,nc,nS,pC,pD,pE,pF,pG,pH,pI,pJ,pK,U,aW,List.length_map,qy];unfold eqN;by_cases h1:A.stops.length=B.stops.length
 ·by_cases h2:A.af.length=B.af.length
  ·by_cases h3:A.ah.length=B.ah.length
   ·by_cases h4:A.paths.length=B.paths.length
    ·rw[if_neg (by simp[h1,h2,h3,h4]),P6 A B hA h1,P5 A B hA h2,P4 A B hA h3,P3 A B hA h4];unfold LQ;by_cases g1:A.stops=B.stops
     ·by_cases g2:A.af=B.af
      ·by_cases g3:A.ah=B.ah
       ·by_cases g4:A.paths=B.paths
        ·rw[if_pos g1,if_pos g2,if_pos g3,if_pos g4];simp[g1,g2,g3,g4]
        ·rw[if_pos g1,if_pos g2,if_pos g3,if_neg g4];simp[g4]
       ·rw[if_pos g1,if_pos g2,if_neg g3];simp[g3]
      ·rw[if_pos g1,if_neg g2];simp[g2]
     ·rw[if_neg g1];simp[g1]
    ·rw[if_pos (by simp[h4])];have:A.paths≠B.paths:=fun e=>h4 (by rw[e]);simp[this]
   ·rw[if_pos (by simp[h3])];have:A.ah≠B.ah:=fun e=>h3 (by rw[e]);simp[this]
  ·rw[if_pos (by simp[h2])];have:A.af≠B.af:=fun e=>h2 (by rw[e]);simp[this]
 ·rw[if_pos (by simp[h1])];have:A.stops≠B.stops:=fun e=>h1 (by rw[e]);simp[this]
end Go.Ab.Tt
namespace Go.Ab.Tt
set_option maxRecDepth 100000
set_option linter.unusedVariables false
set_option linter.unusedSimpArgs false
theorem cF(es:List PV)(n:Nat)(h:es.length≤1000)(hn:0<n)(hn2:n≤1000):(([]:List PV)++es).length*n≤aa∧0<n:=by refine⟨?_,hn⟩;rw[List.nil_append];have:es.length*n≤1000*1000:=Nat.mul_le_mul h hn2;unfold aa;omega
theorem kF(es:List PV):List.take (((([]:List PV)++es).length:Int).toNat) (([]:List PV)++es)=es:=by simp
theorem CO(es:List PV)(h:es.length≤1000):cw [.rs 4 es]=some (.rs 4 es):=by simp only[cw,kC,ab,if_true,U];rw[if_pos (cF es 40 h (by decide) (by decide)),if_pos ⟨by omega,by omega,by omega,trivial⟩,kF]
theorem Aw(es:List PV)(h:es.length≤1000):ck [.rs 3 es]=some (.rs 3 es):=by simp only[ck,jB,ab,if_true,U];rw[if_pos (cF es 32 h (by decide) (by decide)),if_pos ⟨by omega,by omega,by omega,trivial⟩,kF]
theorem Ev(es:List PV)(h:es.length≤1000):cO [.rs 8 es]=some (.rs 8 es):=by simp only[cO,lA,ab,if_true,U];rw[if_pos (cF es 80 h (by decide) (by decide)),if_pos ⟨by omega,by omega,by omega,trivial⟩,kF]
theorem CP(es:List PV)(h:es.length≤1000):cy [.rs 5 es]=some (.rs 5 es):=by simp only[cy,kB,ab,if_true,U];rw[if_pos (cF es 40 h (by decide) (by decide)),if_pos ⟨by omega,by omega,by omega,trivial⟩,kF]
theorem uO(es:List PV)(h:es.length≤1000):bG [.rs 4 es]=some (.rs 4 es):=by simp only[bG,gP,ab,if_true,U];rw[if_pos (cF es 32 h (by decide) (by decide)),if_pos ⟨by omega,by omega,by omega,trivial⟩,kF]
theorem CQ(es:List PV)(h:es.length≤1000):cz [.rs 5 es]=some (.rs 5 es):=by simp only[cz,kx,ab,if_true,U];rw[if_pos (cF es 32 h (by decide) (by decide)),if_pos ⟨by omega,by omega,by omega,trivial⟩,kF]
theorem wj(es:List PV)(h:es.length≤1000):bN [.rs 6 es]=some (.rs 6 es):=by simp only[bN,iy,ab,if_true,U];rw[if_pos (cF es 56 h (by decide) (by decide)),if_pos ⟨by omega,by omega,by omega,trivial⟩,kF]
variable{A:Type}
def mix(f g:A→PV)(l:List A)(k:Nat):List PV:=(l.take k).map f++(l.drop k).map g
theorem HX(f g:A→PV)(l:List A):mix f g l 0=l.map g:=by simp[mix]
theorem FQ(f g:A→PV)(l:List A):mix f g l l.length=l.map f:=by simp[mix]
theorem Oi(f g:A→PV)(l:List A)(k:Nat):(mix f g l k).length=l.length:=by simp[mix];omega
theorem Oj(f g:A→PV)(l:List A)(k:Nat)(h:k<l.length):(mix f g l k)[k]?=some (g l[k]):=by unfold mix;rw[List.getElem?_append_right (by simp;omega)];simp only[List.length_map,List.length_take,Nat.min_eq_left (Nat.le_of_lt h),Nat.sub_self,List.getElem?_map,List.getElem?_drop,Nat.add_zero,List.getElem?_eq_getElem h,Option.map_some]
theorem Ol(f g:A→PV)(l:List A)(k:Nat)(h:k<l.length):(mix f g l k).set k (f l[k])=mix f g l (k+1):=by
 apply List.ext_getElem?;intro j;rw[List.getElem?_set];unfold mix;by_cases hj:k=j
 ·subst hj;rw[if_pos rfl,if_pos (by simp;omega),List.getElem?_append_left (by simp;omega)];simp[h]
 ·rw[if_neg hj];by_cases bu:j<k
  ·rw[List.getElem?_append_left (by simp;omega),List.getElem?_append_left (by simp;omega)];simp[bu,Nat.lt_succ_of_lt bu]
  ·rw[List.getElem?_append_right (by simp;omega),List.getElem?_append_right (by simp;omega)];simp only[List.length_map,List.length_take,List.getElem?_map,List.getElem?_drop];congr 2;omega
theorem ek(f g:A→PV)(l:List A)(k:Nat)(h:k<l.length)(p:PV):((mix f g l k).set k p)[k]?=some p:=by rw[List.getElem?_set,if_pos rfl,if_pos (by rw[Oi];exact h)]
theorem FT(f g:A→PV)(l:List A)(k:Nat)(h:k<l.length):ae (k:Int) (mix f g l k).length:=by rw[Oi];exact⟨by omega,by omega⟩
def bp.mS(x:bp):PV:=.agg [.int .i64 x.cX,.int .i64 x.day,.int .i64 x.inst,.str x.id,.int .i64 x.bd,.bool x.free,.bool x.q9,.cK 5 (x.calls.map an.pv)]
theorem gR(l:List bp):(l.map bp.mS).map PV.strip=l.map bp.pv:=by rw[List.map_map];rfl
end Go.Ab.Tt
