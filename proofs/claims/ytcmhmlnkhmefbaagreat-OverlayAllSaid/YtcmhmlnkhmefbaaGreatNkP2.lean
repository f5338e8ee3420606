import Derived.Test.YtcmhmlnkhmefbaaGreatNkP1
import Derived.Test.YtcmhmlnkhmefbaaGreatNwP2
namespace Go.Ab.Tt
set_option maxRecDepth 100000
set_option linter.unusedVariables false
set_option linter.unusedSimpArgs false
def bZ(x:Path):Int×Int×Bool:=(x.a,x.b,x.free)
def ze(x:Int×Int×Bool):PV:=.agg [.int .i64 x.1,.int .i64 x.2.1,.bool x.2.2]
theorem H2(a b:Int×Int×Bool):cA (ze a).cells (ze b).cells=decide (a=b):=by obtain⟨a1,a2,a3⟩:=a;obtain⟨b1,b2,b3⟩:=b;rw[Bool.eq_iff_iff];simp[ze,PV.cells,cA,peq]
def dt(l:List Path)(n:Int)(k:Nat):Int:=match l[k]? with
 |none=>0
 |some x=>if(decide (x.a<0)||decide (x.a≥n)||decide (x.b<0)||decide (x.b≥n)||decide (x.a=x.b))=true then 9 else if(decide (x.bm<1)||decide (x.bm>14400))=true then 2 else if bZ x∈(l.map bZ).take k then 6 else 0
theorem LQ(l:List Path)(n:Int)(hl:l.length≤maxLen):ez [.rs 4 (l.map Path.pv),.int .i64 n]=some (res (bS (dt l n) l.length).1 (bS (dt l n) l.length).2):=by
 have hm:=aT;simp only[ez,pE,ab,asInt,if_true,U,List.length_map];rw[←lD];refine aY (fun k=>(n,l.map Path.pv,(l.length:Int),(k:Int),seen ze ((l.map bZ).take k),())) l.length _ (fun k hk rec=>?_) (fun rec=>?_) ?_ rfl
 ·have h1:(k:Int)<(l.length:Int):=by omega
  have qR:eN (.agg [.int .i64 l[k].a,.int .i64 l[k].b,.bool l[k].free]) (.bool true) (seen ze ((l.map bZ).take k))=_:=ni H2 (bZ l[k]) ((l.map bZ).take k);have rV:dI (.agg [.int .i64 l[k].a,.int .i64 l[k].b,.bool l[k].free]) (.bool false) (seen ze ((l.map bZ).take k))=_:=kS H2 (bZ l[k]) ((l.map bZ).take k);simp only[lH,decide_eq_true_eq,h1,if_true,aq,List.getElem?_map,List.getElem?_eq_getElem hk,Option.map_some,U,HY,HZ,Ox,H0,asInt,asBool,qR,rV,dU,ak (show k<9223372036854775807 by omega),pI bZ l k hk];unfold dt;rw[List.getElem?_eq_getElem hk];simp only;by_cases bO:bZ l[k]∈(l.map bZ).take k
  ·simp only[bO,if_true];by_cases e1:l[k].a<0<;>by_cases e2:l[k].a≥n<;>by_cases e3:l[k].b<0<;>by_cases e4:l[k].b≥n<;>by_cases e5:l[k].a=l[k].b<;>by_cases e6:l[k].bm<1<;>by_cases e7:l[k].bm>14400<;>simp only[e1,e2,e3,e4,e5,e6,e7,decide_true,decide_false,Bool.or_true,Bool.true_or,Bool.or_false,if_true,if_false,Bool.false_eq_true]<;>rfl
  ·simp only[bO,if_false,Bool.false_eq_true];by_cases e1:l[k].a<0<;>by_cases e2:l[k].a≥n<;>by_cases e3:l[k].b<0<;>by_cases e4:l[k].b≥n<;>by_cases e5:l[k].a=l[k].b<;>by_cases e6:l[k].bm<1<;>by_cases e7:l[k].bm>14400<;>simp only[e1,e2,e3,e4,e5,e6,e7,decide_true,decide_false,Bool.or_true,Bool.true_or,Bool.or_false,if_true,if_false,Bool.false_eq_true]<;>rfl
 ·simp only[lH,decide_eq_true_eq,Int.lt_irrefl,if_false];rfl
 ·have:=aP;omega
def toFp(p:Path):Nw.Fp:=⟨p.a.toNat,p.b.toNat,p.bm.toNat,p.free⟩
def Sound(l:List Path)(n:Nat):Prop:=∀p∈l,0≤p.a∧p.a<n∧0≤p.b∧p.b<n∧1≤p.bm∧p.bm≤14400
variable{l:List Path}{n:Nat}
theorem H3(h:(bS (dt l n) l.length).2=0):Sound l n:=by
 intro p hp;obtain⟨k,hk,rfl⟩:=List.getElem_of_mem hp;have h0:=(mG _ _).1 h k hk;unfold dt at h0;rw[List.getElem?_eq_getElem hk]at h0;simp only at h0;by_cases c1:(decide (l[k].a<0)||decide (l[k].a≥n)||decide (l[k].b<0)||decide (l[k].b≥n)||decide (l[k].a=l[k].b))=true
 ·rw[if_pos c1]at h0;omega
 ·rw[if_neg c1]at h0;by_cases c2:(decide (l[k].bm<1)||decide (l[k].bm>14400))=true
  ·rw[if_pos c2]at h0;omega
  ·simp only[Bool.or_eq_true,decide_eq_true_eq]at c1 c2;omega
theorem toFp_pv{p:Path}(h1:0≤p.a)(h2:0≤p.b)(h3:1≤p.bm):(toFp p).pv=p.pv:=by simp only[toFp,Nw.Fp.pv,Path.pv];rw[Int.toNat_of_nonneg h1,Int.toNat_of_nonneg h2,Int.toNat_of_nonneg (by omega)]
theorem Tj(h:Sound l n):(l.map toFp).map Nw.Fp.pv=l.map Path.pv:=by rw[List.map_map];apply List.map_congr_left;intro p hp;exact toFp_pv (h p hp).1 (h p hp).2.2.1 (h p hp).2.2.2.2.1
def Oz(e:List PV):Path:=match e with|[.int .i64 a,.int .i64 b,.int .i64 s,.bool f]=>⟨a,b,s,f⟩|_=>⟨0,0,0,false⟩
theorem CN:∀(L:List (List PV)),(∀e∈L,Nw.IsF e)→eC L=(L.map Oz).map Path.pv
 |[],_=>rfl
 |e::L,h=>by obtain⟨i,k,s,b,rfl⟩:=h e (by simp);have:=CN L fun x hx=>h x (by simp[hx]);unfold eC at this⊢;rw[List.map_cons,List.map_cons,List.map_cons,this];rfl
def hT(l:List Path)(n:Nat):List Path:=(Nw.DH n (Nw.qk n (l.map toFp) false) (Nw.qk n (l.map toFp) true)).map Oz
theorem EG(hn:n≤64)(hl:l.length≤4096)(h:Sound l n):c7 [.rs 4 (l.map Path.pv),.int .i64 n]=some (.rs 4 ((hT l n).map Path.pv))∧fB [.rs 4 (l.map Path.pv),.int .i64 n]=some (.rs 4 ((hT l n).map Path.pv)):=by have:=Nw.LR (l.map toFp) n hn (by simpa using hl) (fun p hp=>by obtain⟨q,hq,rfl⟩:=List.mem_map.1 hp;have:=h q hq;simp only[toFp];omega);rw[Tj h,CN _ (Nw.H4 n _ _)]at this;exact this
theorem H5(l:List Path)(n:Nat)(hn:n≤64):(hT l n).length≤8192:=by
 have h1:(hT l n).length=(eC (Nw.DH n (Nw.qk n (l.map toFp) false) (Nw.qk n (l.map toFp) true))).length:=by simp[hT,eC]
 rw[h1,Nw.zf];have h2:=Nw.xP (it:=fun i k=>Nw.AR (Nw.qk n (l.map toFp) false i k) (Nw.qk n (l.map toFp) true i k) i k) (fun i k=>Nw.FX _ _ i k) n n;have h3:2*n*n≤2*64*64:=Nat.mul_le_mul (Nat.mul_le_mul_left 2 hn) hn;omega
theorem H6(x y:Path):cA [cell x.pv 0,cell x.pv 1,cell x.pv 2,cell x.pv 3] [cell y.pv 0,cell y.pv 1,cell y.pv 2,cell y.pv 3]=decide (x=y):=by rw[Bool.eq_iff_iff];obtain⟨a,b,c,d⟩:=x;obtain⟨a',b',c',d'⟩:=y;simp[HY,HZ,Ox,H0,cA,peq]
theorem xQ(x:Path):gX (Kd.int IntKind.i64::[].append (Kd.int IntKind.i64::[].append (Kd.int IntKind.i64::[].append (Kd.bool::[].append [])))) [cell x.pv 0,cell x.pv 1,cell x.pv 2,cell x.pv 3]=true:=rfl
def lI(l:List Path)(n:Nat):Bool:=decide (hT l n=l)
theorem H7(hn:n≤64)(hl:l.length≤4096)(h:(bS (dt l n) l.length).2=0):dq [.rs 4 (l.map Path.pv),.int .i64 n]=some (.bool (lI l n)):=by
 have hm:4096≤maxLen:=by decide
 have hs:=LQ l n (by omega);have hf:=Qf _ _ h;rw[h,hf]at hs;have hc:=(EG hn hl (H3 h)).1;have s9:=H5 l n hn;have tz:¬decide ((n:Int)>64)=true:=by simp;omega
 have h0:¬(0:Int)>(n:Int):=by omega
 simp only[dq,lC,ab,asInt,if_true,U];rw[if_neg tz,hs];simp only[res,bA,List.length_cons,List.length_nil,Nat.reduceAdd,if_true,U,List.getD_cons_zero,List.getD_cons_succ,asInt,if_neg h0,hc,ab,List.length_map];rw[if_neg (by decide)];unfold lI;by_cases hlen:(hT l n).length=l.length
 ·rw[if_neg (by simp[jy,hlen])];have hr:=mT (hT l n) l hlen (some (PV.bool false)) (some (PV.bool true));have:some (PV.bool (decide (hT l n=l)))=if hT l n=l then some (PV.bool true)else some (PV.bool false):=by by_cases hc:hT l n=l<;>simp[hc]
  rw[this,←hr];refine aY (fun k=>(l.map Path.pv,(hT l n).map Path.pv,((hT l n).length:Int),(k:Int),())) (hT l n).length _ (fun k hk rec=>?_) (fun rec=>?_) ?_ rfl
  ·have h1:decide ((k:Int)<((hT l n).length:Int))=true:=by simp;omega
   have jK:k<l.length:=by omega
   unfold ja;dsimp only;rw[if_pos h1,aq,List.getElem?_map,List.getElem?_eq_getElem hk,aq,List.getElem?_map,List.getElem?_eq_getElem jK];simp only[Option.map_some,U];rw[if_pos ⟨xQ _,xQ _⟩,H6,ak (by omega)];by_cases he:(hT l n)[k]=l[k]
   ·simp[he,cY]
   ·simp[he,cY]
  ·unfold ja;dsimp only;rw[if_neg (by simp)]
  ·have:=aP;omega
 ·rw[if_pos (by simp[jy];omega)];rw[decide_eq_false (fun hc=>hlen (by rw[hc]))]
def cU(l:List Path)(n:Nat):Int×Int:=if(bS (dt l n) l.length).2=0 then(if lI l n=true then(0,0)else(0,18))else bS (dt l n) l.length
def rn(x:Int×Int×Bool):PV:=.agg [.int .i64 x.1,.int .i64 x.2.1,.int .i64 0,.bool x.2.2]
theorem abd(a b:Int×Int×Bool):cA (rn a).cells (rn b).cells=decide (a=b):=by obtain⟨a1,a2,a3⟩:=a;obtain⟨b1,b2,b3⟩:=b;rw[Bool.eq_iff_iff];simp[rn,PV.cells,cA,peq]
theorem An(N:ag)(l:List Path)(n:Nat)(hl:l.length≤4096)(hlen:(N.stops.map Stop.pv).length=n)(k:Nat)(hk:k<l.length)(rec:Qg→Option PV):cP (l.map Path.pv,(l.length:Int),(k:Int),N.stops.map Stop.pv,N.af.map ax.pv,N.runs.map bq.pv,N.ah.map aC.pv,l.map Path.pv,N.au.map aS.pv,N.aR,N.within,N.cap,0,0,0,seen rn ((l.map bZ).take k),()) rec=cY (if dt l n k=0 then none else some (some (r3 4 k (dt l n k)))) (rec (l.map Path.pv,(l.length:Int),((k+1:Nat):Int),N.stops.map Stop.pv,N.af.map ax.pv,N.runs.map bq.pv,N.ah.map aC.pv,l.map Path.pv,N.au.map aS.pv,N.aR,N.within,N.cap,0,0,0,seen rn ((l.map bZ).take (k+1)),())):=by
 have h1:decide ((k:Int)<(l.length:Int))=true:=by simp;omega
 have qR:eN (.agg [.int .i64 l[k].a,.int .i64 l[k].b,.int .i64 0,.bool l[k].free]) (.bool true) (seen rn ((l.map bZ).take k))=_:=ni abd (bZ l[k]) ((l.map bZ).take k);have rV:dI (.agg [.int .i64 l[k].a,.int .i64 l[k].b,.int .i64 0,.bool l[k].free]) (.bool false) (seen rn ((l.map bZ).take k))=_:=kS abd (bZ l[k]) ((l.map bZ).take k);unfold cP;dsimp only;rw[if_pos h1,aq,List.getElem?_map,List.getElem?_eq_getElem hk,hlen];simp only[Option.map_some,U,HY,HZ,Ox,H0,asInt,asBool,if_true,wT,aW,dU,qR,rV,CM,Oy,wS,wj,zd,pI bZ l k hk,ak (show k<9223372036854775807 by omega)];have hA:(!(decide (l[k].a≥0)&&decide (l[k].a<(n:Int)))|| !(decide (l[k].b≥0)&&decide (l[k].b<(n:Int)))||decide (l[k].a=l[k].b))=(decide (l[k].a<0)||decide (l[k].a≥(n:Int))||decide (l[k].b<0)||decide (l[k].b≥(n:Int))||decide (l[k].a=l[k].b)):=by rw[Bool.eq_iff_iff];simp only[Bool.or_eq_true,Bool.not_eq_true',Bool.and_eq_false_iff,decide_eq_true_eq,decide_eq_false_iff_not];omega
 rw[hA];unfold dt;rw[List.getElem?_eq_getElem hk];simp only;generalize (decide (l[k].a<0)||decide (l[k].a≥(n:Int))||decide (l[k].b<0)||decide (l[k].b≥(n:Int))||decide (l[k].a=l[k].b))=A;generalize (decide (l[k].bm<1)||decide (l[k].bm>14400))=B;by_cases bO:bZ l[k]∈(l.map bZ).take k
 ·simp only[bO,if_true];cases A<;>cases B<;>rfl
 ·simp only[bO,if_false];cases A<;>cases B<;>rfl
theorem DJ(N:ag)(hn:N.stops.length≤64)(hl:N.paths.length≤4096):bG [N.pv]=some (prt 4 (cU N.paths N.stops.length)):=by
 have hm:4096≤maxLen:=by decide
 simp only[bG,kr,mF,nW,nX,nY,nZ,oa,ob,oc,od,og,U,List.length_map];generalize He:N.paths=l at hl⊢;generalize Pv:N.stops.length=n at hn⊢;have hlen:(N.stops.map Stop.pv).length=n:=by simpa using Pv
 have hg:=iu (dt l n) l.length (fun i e=>r3 4 i e) (some (if lI l n=true then r3 0 0 0 else r3 4 0 18));have hR:some (prt 4 (cU l n))=if(bS (dt l n) l.length).2=0 then some (if lI l n=true then r3 0 0 0 else r3 4 0 18)else some (r3 4 (bS (dt l n) l.length).1 (bS (dt l n) l.length).2):=by
  unfold cU prt;by_cases h:(bS (dt l n) l.length).2=0
  ·rw[if_pos h,if_pos h];cases lI l n<;>rfl
  ·rw[if_neg h,if_neg h,if_neg h]
 rw[hR,←hg];by_cases hz:(bS (dt l n) l.length).2=0
 ·refine aY (fun k=>(l.map Path.pv,(l.length:Int),(k:Int),N.stops.map Stop.pv,N.af.map ax.pv,N.runs.map bq.pv,N.ah.map aC.pv,l.map Path.pv,N.au.map aS.pv,N.aR,N.within,N.cap,0,0,0,seen rn ((l.map bZ).take k),())) l.length _ (fun k hk rec=>An N l n hl hlen k hk rec) (fun rec=>?_) ?_ rfl
  ·unfold cP;dsimp only;rw[if_neg (by simp),hlen,H7 hn hl hz];simp only[U,asBool,CM,Oy,wS,wj,zd];cases lI l n<;>rfl
  ·have:=aP;omega
 ·have tx:=aY (body:=cP) (fun k=>(l.map Path.pv,(l.length:Int),(k:Int),N.stops.map Stop.pv,N.af.map ax.pv,N.runs.map bq.pv,N.ah.map aC.pv,l.map Path.pv,N.au.map aS.pv,N.aR,N.within,N.cap,0,0,0,seen rn ((l.map bZ).take k),())) l.length _ (fin:=cP (l.map Path.pv,(l.length:Int),(l.length:Int),N.stops.map Stop.pv,N.af.map ax.pv,N.runs.map bq.pv,N.ah.map aC.pv,l.map Path.pv,N.au.map aS.pv,N.aR,N.within,N.cap,0,0,0,seen rn ((l.map bZ).take l.length),()) fun _=>none) (fun k hk rec=>An N l n hl hlen k hk rec) (fun rec=>?_) (by have:=aP;omega) (s0:=(l.map Path.pv,(l.length:Int),0,N.stops.map Stop.pv,N.af.map ax.pv,N.runs.map bq.pv,N.ah.map aC.pv,l.map Path.pv,N.au.map aS.pv,N.aR,N.within,N.cap,0,0,0,[],())) rfl
  ·rw[tx,iu,iu,if_neg hz,if_neg hz]
  ·unfold cP;dsimp only;rw[if_neg (by simp),if_neg (by simp)]
end Go.Ab.Tt
namespace Go.Ab.Tt
set_option maxRecDepth 100000
set_option linter.unusedVariables false
set_option linter.unusedSimpArgs false
theorem FY(N:ag)(l:List Path)(hl:l.length≤4096)(i:Nat)(hi:i<l.length)(eP:DK→Option PV):bI.run (lJ eP) ((i:Int),0,N.stops.map Stop.pv,N.af.map ax.pv,N.runs.map bq.pv,N.ah.map aC.pv,l.map Path.pv,N.au.map aS.pv,N.aR,N.within,N.cap,.int .i64 l[i].a,.int .i64 l[i].b,.int .i64 l[i].bm,.bool l[i].free,())=if bZ l[i]∈(l.map bZ).take i then some (res i 6)else eP (IntKind.i64.wrap ((i:Int)+1),N.stops.map Stop.pv,N.af.map ax.pv,N.runs.map bq.pv,N.ah.map aC.pv,l.map Path.pv,N.au.map aS.pv,N.aR,N.within,N.cap,()):=by
 have hm:4096≤maxLen:=by decide
 refine(pL (fun k=>((i:Int),(k:Int),N.stops.map Stop.pv,N.af.map ax.pv,N.runs.map bq.pv,N.ah.map aC.pv,l.map Path.pv,N.au.map aS.pv,N.aR,N.within,N.cap,PV.int .i64 l[i].a,PV.int .i64 l[i].b,PV.int .i64 l[i].bm,PV.bool l[i].free,())) i (fun k=>decide ((l.map bZ)[k]?=some (bZ l[i]))) (no:=some (res i 6)) (fin:=eP (IntKind.i64.wrap ((i:Int)+1),N.stops.map Stop.pv,N.af.map ax.pv,N.runs.map bq.pv,N.ah.map aC.pv,l.map Path.pv,N.au.map aS.pv,N.aR,N.within,N.cap,())) (fun k hk rec=>?_) (fun rec=>?_) ?_ rfl).trans ?_
 ·have h1:decide ((k:Int)<(i:Int))=true:=by simp;omega
  have jK:k<l.length:=by omega
  have hd:decide ((l.map bZ)[k]?=some (bZ l[i]))=(decide (l[k].a=l[i].a)&&decide (l[k].b=l[i].b)&&decide (l[k].free=l[i].free)):=by rw[Bool.eq_iff_iff];simp[List.getElem?_eq_getElem jK,bZ,and_assoc]
  rw[hd];unfold lJ;dsimp only;rw[if_pos h1,aq,List.getElem?_map,List.getElem?_eq_getElem jK];simp only[Option.map_some,U,HY,HZ,H0,asInt,asBool,if_true,ak (show k<9223372036854775807 by omega),dU,cT];rfl
 ·unfold lJ;dsimp only;rw[if_neg (by simp)]
 ·have:=aP;omega
 ·rw[Be _ _ (by simp;omega)];simp only[decide_eq_true_eq]
theorem Qh(N:ag)(hn:N.stops.length≤64)(hl:N.paths.length≤4096):jO [N.pv]=some (res (cU N.paths N.stops.length).1 (cU N.paths N.stops.length).2):=by
 have hm:4096≤maxLen:=by decide
 simp only[jO,uh,mF,nW,nX,nY,nZ,oa,ob,oc,od,og,U];generalize He:N.paths=l at hl⊢;generalize Pv:N.stops.length=n at hn⊢;have hlen:(N.stops.map Stop.pv).length=n:=by simpa using Pv
 have hw:IntKind.i64.wrap ((n:Int)-1)=(n:Int)-1:=fF (by omega) (by omega);have Tk:∀k,(hk:k<l.length)→∀rec,fC bI ((k:Int),N.stops.map Stop.pv,N.af.map ax.pv,N.runs.map bq.pv,N.ah.map aC.pv,l.map Path.pv,N.au.map aS.pv,N.aR,N.within,N.cap,()) rec=cY (if dt l n k=0 then none else some (some (res k (dt l n k)))) (rec (((k+1:Nat):Int),N.stops.map Stop.pv,N.af.map ax.pv,N.runs.map bq.pv,N.ah.map aC.pv,l.map Path.pv,N.au.map aS.pv,N.aR,N.within,N.cap,())):=by
  intro k hk rec;have h1:decide ((k:Int)<((l.map Path.pv).length:Int))=true:=by simp;omega
  have pq:=FY N l hl k hk rec;unfold fC;dsimp only;rw[if_pos h1,aq,List.getElem?_map,List.getElem?_eq_getElem hk,hlen,hw];simp only[Option.map_some,U,HY,HZ,Ox,H0,asInt,asBool,if_true,CI,aW,dU,pq,ak (show k<9223372036854775807 by omega)];have hA:(!(decide (l[k].a≥0)&&decide (l[k].a≤(n:Int)-1))|| !(decide (l[k].b≥0)&&decide (l[k].b≤(n:Int)-1))||decide (l[k].a=l[k].b))=(decide (l[k].a<0)||decide (l[k].a≥(n:Int))||decide (l[k].b<0)||decide (l[k].b≥(n:Int))||decide (l[k].a=l[k].b)):=by rw[Bool.eq_iff_iff];simp only[Bool.or_eq_true,Bool.not_eq_true',Bool.and_eq_false_iff,decide_eq_true_eq,decide_eq_false_iff_not];omega
  have hB:(!(decide (l[k].bm≥1)&&decide (l[k].bm≤14400)))=(decide (l[k].bm<1)||decide (l[k].bm>14400)):=by rw[Bool.eq_iff_iff];simp only[Bool.or_eq_true,Bool.not_eq_true',Bool.and_eq_false_iff,decide_eq_true_eq,decide_eq_false_iff_not];omega
  rw[hA,hB];unfold dt;rw[List.getElem?_eq_getElem hk];simp only;generalize (decide (l[k].a<0)||decide (l[k].a≥(n:Int))||decide (l[k].b<0)||decide (l[k].b≥(n:Int))||decide (l[k].a=l[k].b))=A;generalize (decide (l[k].bm<1)||decide (l[k].bm>14400))=B;by_cases bO:bZ l[k]∈(l.map bZ).take k
  ·simp only[bO,if_true];cases A<;>cases B<;>rfl
  ·simp only[bO,if_false];cases A<;>cases B<;>rfl
 have hg:=iu (dt l n) l.length (fun i e=>res i e) (some (if lI l n=true then res 0 0 else res 0 18));have hR:some (res (cU l n).1 (cU l n).2)=if(bS (dt l n) l.length).2=0 then some (if lI l n=true then res 0 0 else res 0 18)else some (res (bS (dt l n) l.length).1 (bS (dt l n) l.length).2):=by
  unfold cU;by_cases h:(bS (dt l n) l.length).2=0
  ·rw[if_pos h,if_pos h];cases lI l n<;>rfl
  ·rw[if_neg h,if_neg h]
 rw[hR,←hg];by_cases hz:(bS (dt l n) l.length).2=0
 ·refine aY (fun k=>((k:Int),N.stops.map Stop.pv,N.af.map ax.pv,N.runs.map bq.pv,N.ah.map aC.pv,l.map Path.pv,N.au.map aS.pv,N.aR,N.within,N.cap,())) l.length _ Tk (fun rec=>?_) ?_ rfl
  ·have hc:=(EG hn hl (H3 hz)).2;have s9:=H5 l n hn;unfold fC;dsimp only;rw[if_neg (by simp),hlen,hc];simp only[U,ab,if_true,List.length_map];unfold lI;by_cases Tl:(hT l n).length=l.length
   ·rw[if_neg (by simp[jy,Tl])];have hr:=mT (hT l n) l Tl (some (res 0 18)) (some (res 0 0));have:some (if decide (hT l n=l)=true then res 0 0 else res 0 18)=if hT l n=l then some (res 0 0)else some (res 0 18):=by by_cases hc:hT l n=l<;>simp[hc]
    rw[this,←hr];refine aY (fun k=>((hT l n).map Path.pv,(k:Int),N.stops.map Stop.pv,N.af.map ax.pv,N.runs.map bq.pv,N.ah.map aC.pv,l.map Path.pv,N.au.map aS.pv,N.aR,N.within,N.cap,())) (hT l n).length _ (fun k hk rec=>?_) (fun rec=>?_) ?_ rfl
    ·have h1:decide ((k:Int)<(((hT l n).map Path.pv).length:Int))=true:=by simp;omega
     have jK:k<l.length:=by omega
     unfold pQ;dsimp only;rw[if_pos h1,aq,List.getElem?_map,List.getElem?_eq_getElem hk,aq,List.getElem?_map,List.getElem?_eq_getElem jK];simp only[Option.map_some,U];rw[if_pos ⟨xQ _,xQ _⟩,H6,ak (by omega)];by_cases he:(hT l n)[k]=l[k]
     ·simp[he,cY]
     ·simp[he,cY,res]
    ·unfold pQ;dsimp only;rw[if_neg (by simp)];rfl
    ·have:=aP;omega
   ·rw[if_pos (by simp[jy];omega)];rw[decide_eq_false (fun hc=>Tl (by rw[hc]))];rfl
  ·have:=aP;omega
 ·have tx:=aY (body:=fC bI) (fun k=>((k:Int),N.stops.map Stop.pv,N.af.map ax.pv,N.runs.map bq.pv,N.ah.map aC.pv,l.map Path.pv,N.au.map aS.pv,N.aR,N.within,N.cap,())) l.length _ (fin:=fC bI ((l.length:Int),N.stops.map Stop.pv,N.af.map ax.pv,N.runs.map bq.pv,N.ah.map aC.pv,l.map Path.pv,N.au.map aS.pv,N.aR,N.within,N.cap,()) fun _=>none) Tk (fun rec=>?_) (by have:=aP;omega) (s0:=(0,N.stops.map Stop.pv,N.af.map ax.pv,N.runs.map bq.pv,N.ah.map aC.pv,l.map Path.pv,N.au.map aS.pv,N.aR,N.within,N.cap,())) rfl
  ·rw[tx,iu,iu,if_neg hz,if_neg hz]
  ·unfold fC;dsimp only;rw[if_neg (by simp),if_neg (by simp)]
end Go.Ab.Tt
namespace Go.Ab.Tt
set_option maxRecDepth 100000
set_option linter.unusedVariables false
set_option linter.unusedSimpArgs false
def bF(x:bq):Bytes×Int×Int:=(x.id,x.day,x.inst)
def H8(x:Bytes×Int×Int):PV:=.agg [.str x.1,.int .i64 x.2.1,.int .i64 x.2.2]
theorem Tm(a b:Bytes×Int×Int):cA (H8 a).cells (H8 b).cells=decide (a=b):=by obtain⟨a1,a2,a3⟩:=a;obtain⟨b1,b2,b3⟩:=b;rw[Bool.eq_iff_iff];simp[H8,PV.cells,cA,peq]
def jb(l:List bq)(stops af:Int)(k:Nat):Int:=match l[k]? with
 |none=>0
 |some x=>if dS x.id=false then 12 else if(decide (x.cX< -1)||decide (x.inst<0))=true then 2 else if(decide (x.day<0)||decide (x.day>36524))=true then 11 else if(decide (x.bd<0)||decide (x.bd≥af))=true then 9 else if(bj x.calls stops 0 3155932800).2=0 then(if bF x∈(l.map bF).take k then 6 else 0)else(bj x.calls stops 0 3155932800).2
def gg(l:List bq)(stops af:Int):Int×Int:=if l.length>1024 then(0,5)else bS (jb l stops af) l.length
theorem LS(N:ag)(l:List bq)(hl:l.length≤maxLen∧∀y∈l,y.Ok)(k:Nat)(hk:k<l.length)(rec:Qg→Option PV):fQ (l.map bq.pv,(l.length:Int),(k:Int),N.stops.map Stop.pv,N.af.map ax.pv,l.map bq.pv,N.ah.map aC.pv,N.paths.map Path.pv,N.au.map aS.pv,N.aR,N.within,N.cap,0,0,0,seen H8 ((l.map bF).take k),()) rec=cY (if jb l N.stops.length N.af.length k=0 then none else some (some (r3 2 k (jb l N.stops.length N.af.length k)))) (rec (l.map bq.pv,(l.length:Int),((k+1:Nat):Int),N.stops.map Stop.pv,N.af.map ax.pv,l.map bq.pv,N.ah.map aC.pv,N.paths.map Path.pv,N.au.map aS.pv,N.aR,N.within,N.cap,0,0,0,seen H8 ((l.map bF).take (k+1)),())):=by
 have hm:=aT;have h1:decide ((k:Int)<(l.length:Int))=true:=by simp;omega
 have hO:=hl.2 _ (List.getElem_mem hk);have hid:=uF l[k].id hO.id;have eS:=oG l[k].calls N.stops.length 0 3155932800 hO.calls.1;simp only[res]at eS;have qR:eN (.agg [.str l[k].id,.int .i64 l[k].day,.int .i64 l[k].inst]) (.bool true) (seen H8 ((l.map bF).take k))=_:=ni Tm (bF l[k]) ((l.map bF).take k);have rV:dI (.agg [.str l[k].id,.int .i64 l[k].day,.int .i64 l[k].inst]) (.bool false) (seen H8 ((l.map bF).take k))=_:=kS Tm (bF l[k]) ((l.map bF).take k);unfold fQ;dsimp only;rw[if_pos h1,aq,List.getElem?_map,List.getElem?_eq_getElem hk];simp only[Option.map_some,U,Wb,LN,LO,LP,Wc,AQ,bh,asInt,asBool,ab,if_true,List.length_map,hid,eS,bA,List.length_cons,List.length_nil,Nat.reduceAdd,List.getD_cons_zero,List.getD_cons_succ,aW,jy,qR,rV,CM,Oy,wS,wj,zd,pI bF l k hk,ak (show k<9223372036854775807 by omega)];unfold jb;rw[List.getElem?_eq_getElem hk];simp only;generalize (decide (l[k].cX< -1)||decide (l[k].inst<0))=A;generalize (decide (l[k].day<0)||decide (l[k].day>36524))=B;generalize (decide (l[k].bd<0)||decide (l[k].bd≥(N.af.length:Int)))=C;generalize (bj l[k].calls N.stops.length 0 3155932800).2=e;cases dS l[k].id with
 |false=>rfl
 |true=>
  cases A with
  |true=>rfl
  |false=>
   cases B with
   |true=>rfl
   |false=>
    cases C with
    |true=>rfl
    |false=>
     simp only[Bool.not_true,Bool.false_eq_true,Bool.true_eq_false,if_false];by_cases he:e=0
     ·subst he;by_cases bO:bF l[k]∈(l.map bF).take k
      ·simp only[bO,if_true,decide_true,Bool.not_true,Bool.false_eq_true,if_false];rfl
      ·simp only[bO,if_true,decide_true,decide_false,Bool.not_true,Bool.false_eq_true,if_false];rfl
     ·simp only[he,if_false,if_true,decide_false,Bool.not_false];rfl
theorem FZ(N:ag)(hl:N.runs.length≤maxLen∧∀y∈N.runs,y.Ok):dp [N.pv]=some (prt 2 (gg N.runs N.stops.length N.af.length)):=by
 have hm:=aT;simp only[dp,lz,mF,nW,nX,nY,nZ,oa,ob,oc,od,og,U,List.length_map];generalize He:N.runs=l at hl⊢;unfold gg;by_cases tz:l.length>1024
 ·rw[if_pos (by simp;omega),if_pos tz];rfl
 ·rw[if_neg (by simp;omega),if_neg tz];have hR:some (prt 2 (bS (jb l N.stops.length N.af.length) l.length))=if(bS (jb l N.stops.length N.af.length) l.length).2=0 then some (r3 0 0 0)else some (r3 2 (bS (jb l N.stops.length N.af.length) l.length).1 (bS (jb l N.stops.length N.af.length) l.length).2):=by
   unfold prt;by_cases h:(bS (jb l N.stops.length N.af.length) l.length).2=0
   ·rw[if_pos h,if_pos h]
   ·rw[if_neg h,if_neg h]
  rw[hR,←iu (jb l N.stops.length N.af.length) l.length (fun i e=>r3 2 i e)];refine aY (fun k=>(l.map bq.pv,(l.length:Int),(k:Int),N.stops.map Stop.pv,N.af.map ax.pv,l.map bq.pv,N.ah.map aC.pv,N.paths.map Path.pv,N.au.map aS.pv,N.aR,N.within,N.cap,0,0,0,seen H8 ((l.map bF).take k),())) l.length _ (fun k hk rec=>LS N l hl k hk rec) (fun rec=>?_) ?_ rfl
  ·unfold fQ;dsimp only;rw[if_neg (by simp)];rfl
  ·have:=aP;omega
theorem LU(N:ag)(l:List bq)(hl:l.length≤maxLen)(i:Nat)(hi:i<l.length):bI.run oh ((i:Int),0,N.stops.map Stop.pv,N.af.map ax.pv,l.map bq.pv,N.ah.map aC.pv,N.paths.map Path.pv,N.au.map aS.pv,N.aR,N.within,N.cap,.int .i64 l[i].cX,.int .i64 l[i].day,.int .i64 l[i].inst,.str l[i].id,.int .i64 l[i].bd,.bool l[i].free,.bool l[i].rj,.rs 5 (l[i].calls.map ao.pv),())=if bF l[i]∈(l.map bF).take i then some (.int .i64 6)else some (.int .i64 0):=by
 have hm:=aT;refine(pL (fun k=>((i:Int),(k:Int),N.stops.map Stop.pv,N.af.map ax.pv,l.map bq.pv,N.ah.map aC.pv,N.paths.map Path.pv,N.au.map aS.pv,N.aR,N.within,N.cap,PV.int .i64 l[i].cX,PV.int .i64 l[i].day,PV.int .i64 l[i].inst,PV.str l[i].id,PV.int .i64 l[i].bd,PV.bool l[i].free,PV.bool l[i].rj,PV.rs 5 (l[i].calls.map ao.pv),())) i (fun k=>decide ((l.map bF)[k]?=some (bF l[i]))) (no:=some (.int .i64 6)) (fin:=some (.int .i64 0)) (fun k hk rec=>?_) (fun rec=>?_) ?_ rfl).trans ?_
 ·have h1:decide ((k:Int)<(i:Int))=true:=by simp;omega
  have jK:k<l.length:=by omega
  have hd:decide ((l.map bF)[k]?=some (bF l[i]))=(decide (l[k].id=l[i].id)&&decide (l[k].day=l[i].day)&&decide (l[k].inst=l[i].inst)):=by rw[Bool.eq_iff_iff];simp[List.getElem?_eq_getElem jK,bF,and_assoc]
  rw[hd];unfold oh;dsimp only;rw[if_pos h1,aq,List.getElem?_map,List.getElem?_eq_getElem jK];simp only[Option.map_some,U,LN,LO,LP,asInt,bh,if_true,ak (show k<9223372036854775807 by omega),dU,cT]
 ·unfold oh;dsimp only;rw[if_neg (by simp)]
 ·have:=aP;omega
 ·rw[Be _ _ (by simp;omega)];simp only[decide_eq_true_eq]
theorem Wd(N:ag)(hl:N.runs.length≤maxLen∧∀y∈N.runs,y.Ok)(k:Nat)(hk:k<N.runs.length):nj [N.pv,.int .i64 k]=some (.int .i64 (jb N.runs N.stops.length N.af.length k)):=by
 have hm:=aT;have hO:=hl.2 _ (List.getElem_mem hk);simp only[nj,za,mF,nW,nX,nY,nZ,oa,ob,oc,od,og,U];generalize He:N.runs=l at hl hk hO⊢;have hO':l[k].Ok:=by subst He;exact hO
 have hid:=sQ l[k].id hO'.id;have eS:=zb l[k].calls N.stops.length 0 3155932800 hO'.calls.1;have pq:=LU N l hl.1 k hk;simp only[asInt,if_true,U,aq,List.getElem?_map,List.getElem?_eq_getElem hk,Option.map_some,Wb,LN,LO,LP,Wc,ZC,ZD,AQ,bh,asBool,ab,List.length_map,hid,eS,CI,aW,jy,pq];unfold jb;rw[List.getElem?_eq_getElem hk];simp only;have hB:(!(decide (l[k].day≥0)&&decide (l[k].day≤36524)))=(decide (l[k].day<0)||decide (l[k].day>36524)):=by rw[Bool.eq_iff_iff];simp only[Bool.or_eq_true,Bool.not_eq_true',Bool.and_eq_false_iff,decide_eq_true_eq,decide_eq_false_iff_not];omega
 rw[hB];generalize (decide (l[k].cX< -1)||decide (l[k].inst<0))=A;generalize (decide (l[k].day<0)||decide (l[k].day>36524))=B;generalize (decide (l[k].bd<0)||decide (l[k].bd≥(N.af.length:Int)))=C;generalize (bj l[k].calls N.stops.length 0 3155932800).2=e;cases dS l[k].id with
 |false=>rfl
 |true=>
  cases A with
  |true=>rfl
  |false=>
   cases B with
   |true=>rfl
   |false=>
    cases C with
    |true=>rfl
    |false=>
     simp only[Bool.not_true,Bool.false_eq_true,Bool.true_eq_false,if_false];by_cases he:e=0
     ·subst he;by_cases bO:bF l[k]∈(l.map bF).take k
      ·simp only[bO,if_true,decide_true,Bool.not_true,Bool.false_eq_true,if_false]
      ·simp only[bO,if_true,decide_true,Bool.not_true,Bool.false_eq_true,if_false]
     ·simp only[he,if_false,if_true,decide_false,Bool.not_false]
end Go.Ab.Tt
namespace Go.Ab.Tt
set_option maxRecDepth 100000
set_option linter.unusedVariables false
set_option linter.unusedSimpArgs false
def nx(p:List aC)(v:Int):Option Int:=p.foldl (fun o x=>if(x.stay&&decide (x.a=v))=true then some x.b else o) none
theorem ZE(v:Int):nx [] v=none:=rfl
theorem qB(p:List aC)(x:aC)(v:Int):nx (p++[x]) v=if(x.stay&&decide (x.a=v))=true then some x.b else nx p v:=by unfold nx;rw[List.foldl_append];rfl
def it(f:Int→Option Int):Nat→Int→Option Int
 |0,v=>some v
 |m+1,v=>(f v).bind (it f m)
theorem OA(f:Int→Option Int)(m:Nat)(v:Int):it f (m+1) v=(it f m v).bind f:=by
 induction m generalizing v with
 |zero=>show(f v).bind (it f 0)=f v;cases h:f v<;>rfl
 |succ m ih=>
  show(f v).bind (it f (m+1))=((f v).bind (it f m)).bind f;cases h:f v with
  |none=>rfl
  |some w=>exact ih w
def lK(p:List aC)(a b:Int)(n:Nat):Bool:=(List.range n).any fun t=>decide (it (nx p) (t+1) a=some b)
def wU(f:Int→Option Int):Prop:=∃r:Int→Nat,∀v w,f v=some w→r w<r v
theorem LV:wU (nx []):=⟨fun _=>0,fun v w h=>by cases h⟩
variable{p:List aC}
theorem LW{v w:Int}(h:nx p v=some w):∃x∈p,x.stay=true∧x.a=v∧x.b=w:=by
 have key:∀n,n≤p.length→nx (p.take n) v=some w→∃x∈p,x.stay=true∧x.a=v∧x.b=w:=by
  intro n;induction n with
  |zero=>intro _ h;cases h
  |succ n ih=>
   intro hn h;have Pv:n<p.length:=by omega
   rw[List.take_succ_eq_append_getElem Pv,qB]at h;by_cases hc:(p[n].stay&&decide (p[n].a=v))=true
   ·rw[if_pos hc]at h;simp only[Bool.and_eq_true,decide_eq_true_eq]at hc;exact⟨p[n],List.getElem_mem Pv,hc.1,hc.2,by simpa using h⟩
   ·rw[if_neg hc]at h;exact ih (by omega) h
 exact key p.length (Nat.le_refl _) (by rw[List.take_length];exact h)
theorem LX{f:Int→Option Int}(hf:wU f)(S:List Int)(hS:∀v w,f v=some w→v∈S):∀m v,it f m v≠none→m≤S.length:=by
 obtain⟨r,hr⟩:=hf;induction hn:S.length generalizing S f r with
 |zero=>
  intro m v h;cases m with
  |zero=>omega
  |succ m=>
   exfalso;cases ZF:f v with
   |none=>exact h (by show(f v).bind _=none;rw[ZF];rfl)
   |some w=>have:=hS v w ZF;rw[List.length_eq_zero_iff.1 hn]at this;cases this
 |succ n ih=>
  intro m v h;cases m with
  |zero=>omega
  |succ m=>
   cases ZF:f v with
   |none=>exact absurd (by show(f v).bind _=none;rw[ZF];rfl) h
   |some w=>
    have hvS:=hS v w ZF;let g:Int→Option Int:=fun x=>if x=v then none else f x;have hg:∀x y,g x=some y→r y<r x:=fun x y We=>by
     by_cases hx:x=v
     ·simp[g,hx]at We
     ·simp only[g,hx,if_false]at We;exact hr x y We
    have hgS:∀x y,g x=some y→x∈S.erase v:=fun x y We=>by
     by_cases hx:x=v
     ·simp[g,hx]at We
     ·simp only[g,hx,if_false]at We;exact(List.mem_erase_of_ne hx).2 (hS x y We)
    have hlen:(S.erase v).length=n:=by rw[List.length_erase_of_mem hvS];omega
    have Sx:∀k x,r x<r v→it g k x=it f k x:=by
     intro k;induction k with
     |zero=>intros;rfl
     |succ k YG=>
      intro x hx;have hxv:x≠v:=fun h=>by subst h;omega
      show(g x).bind (it g k)=(f x).bind (it f k);have:g x=f x:=by simp[g,hxv]
      rw[this];cases hfx:f x with
      |none=>rfl
      |some y=>exact YG y (by have:=hr x y hfx;omega)
    have hw:it f m w≠none:=by intro hc;apply h;show(f v).bind (it f m)=none;rw[ZF];exact hc
    have:=ih (S.erase v) hgS r hg hlen m w (by rw[Sx m w (hr v w ZF)];exact hw);omega
theorem F0(hp:wU (nx p)){m:Nat}(hm:p.length<m)(v:Int):it (nx p) m v=none:=by
 cases h:it (nx p) m v with
 |none=>rfl
 |some w=>have:=LX hp (p.map aC.a) (fun x y We=>by obtain⟨l,h1,h2,h3,h4⟩:=LW We;exact List.mem_map.2 ⟨l,h1,h3⟩) m v (by rw[h];exact fun h=>nomatch h);rw[List.length_map]at this;omega
theorem H9(hp:wU (nx p))(x:aC)(h:x.stay=false∨(x.a≠x.b∧nx p x.a=none∧lK p x.b x.a (p.length+1)=false)):wU (nx (p++[x])):=by
 cases hs:x.stay with
 |false=>obtain⟨r,hr⟩:=hp;refine⟨r,fun v w OB=>hr v w ?_⟩;rw[qB,hs,Bool.false_and,if_neg (by simp)]at OB;exact OB
 |true=>
  rw[hs]at h;rcases h with h|⟨rA,hna,Tn⟩
  ·cases h
  have Dr:=hp;obtain⟨r,hr⟩:=hp;have yW:∀t,it (nx p) (t+1) x.b≠some x.a:=by
   intro t ht;by_cases bu:t<p.length+1
   ·unfold lK at Tn;rw[List.any_eq_false]at Tn;exact Tn t (by simpa using bu) (by simpa using ht)
   ·rw[F0 Dr (by omega)]at ht;cases ht
  let R:Int→Prop:=fun v=>∃t,it (nx p) t v=some x.a;have hRb:¬R x.b:=fun⟨t,ht⟩=>by
   cases t with
   |zero=>exact rA (by simpa[it]using ht.symm)
   |succ t=>exact yW t ht
  refine⟨fun v=>open Classical in if R v then r v+r x.b+1 else r v,fun v w OB=>?_⟩;rw[qB,hs,Bool.true_and]at OB;by_cases hv:x.a=v
  ·rw[if_pos (by simpa using hv)]at OB;simp only[Option.some.injEq]at OB;subst OB;have hRv:R v:=⟨0,by show some v=some x.a;rw[hv]⟩;show(open Classical in if R x.b then r x.b+r x.b+1 else r x.b)<(open Classical in if R v then r v+r x.b+1 else r v);rw[if_neg hRb,if_pos hRv];omega
  ·rw[if_neg (by simpa using hv)]at OB;have bu:=hr v w OB;show(open Classical in if R w then r w+r x.b+1 else r w)<(open Classical in if R v then r v+r x.b+1 else r v);by_cases hw:R w
   ·have hRv:R v:=by obtain⟨t,ht⟩:=hw;exact⟨t+1,by show(nx p v).bind (it (nx p) t)=some x.a;rw[OB];exact ht⟩
    rw[if_pos hw,if_pos hRv];omega
   ·rw[if_neg hw];by_cases hRv:R v
    ·rw[if_pos hRv];omega
    ·rw[if_neg hRv];exact bu
end Go.Ab.Tt
namespace Go.Ab.Tt
set_option maxRecDepth 100000
set_option linter.unusedVariables false
set_option linter.unusedSimpArgs false
def qC(a:Int):PV:=.int .i64 a
def cn(x:aC):Int×Int×Int×Int:=(x.a,x.ac,x.b,x.bc)
def Ia(x:Int×Int×Int×Int):PV:=.agg [.int .i64 x.1,.int .i64 x.2.1,.int .i64 x.2.2.1,.int .i64 x.2.2.2]
theorem To(a b:Int×Int×Int×Int):cA (Ia a).cells (Ia b).cells=decide (a=b):=by obtain⟨a1,a2,a3,a4⟩:=a;obtain⟨b1,b2,b3,b4⟩:=b;rw[Bool.eq_iff_iff];simp[Ia,PV.cells,cA,peq]
def wk(p:List aC):List (Int×PV):=p.foldl (fun m x=>if x.stay=true then wV x.a (.int .i64 x.b) m else m) []
theorem wW(p:List aC)(x:aC):wk (p++[x])=if x.stay=true then wV x.a (.int .i64 x.b) (wk p)else wk p:=by unfold wk;rw[List.foldl_append];rfl
def LY(a:Int)(m:List (Int×PV)):Bool:=m.any fun x=>decide (a=x.1)
theorem OC(a:Int):∀m,tl (qC a) (tc qC m)=LY a m
 |[]=>rfl
 |(b,u)::r=>by have:=OC a r;simp only[tc]at this;simp only[tc,List.map_cons,tl,LY,List.any_cons];rw[this];have:cA (qC a).cells (qC b).cells=decide (a=b):=xR a b;rw[this];rfl
theorem Ib(a b:Int)(v:PV):∀m,LY a (wV b v m)=(decide (a=b)||LY a m)
 |[]=>by simp[LY,wV]
 |(c,u)::r=>by
  have:=Ib a b v r;simp only[LY]at this⊢;by_cases h:b=c
  ·subst h;simp[wV]
  ·simp only[wV,h,if_false,List.any_cons,this];cases decide (a=c)<;>simp
theorem uG{A:Type}{P:List A→Prop}(h0:P [])(h1:∀p x,P p→P (p++[x]))(l:List A):P l:=by
 have key:∀n,n≤l.length→P (l.take n):=by
  intro n;induction n with
  |zero=>intro _;rw[List.take_zero];exact h0
  |succ n ih=>intro hn;rw[List.take_succ_eq_append_getElem (show n<l.length by omega)];exact h1 _ _ (ih (by omega))
 have:=key l.length (Nat.le_refl _);rw[List.take_length]at this;exact this
theorem Qi(p:List aC)(v:Int):uH v (.int .i64 0) (wk p)=.int .i64 ((nx p v).getD 0):=by
 induction p using uG with
 |h0=>rfl
 |h1 p x ih=>
  rw[wW,qB];cases hs:x.stay with
  |false=>rw[if_neg (by simp),Bool.false_and,if_neg (by simp)];exact ih
  |true=>
   rw[if_pos rfl,zg,Bool.true_and];by_cases h:x.a=v
   ·rw[if_pos h.symm,if_pos (by simpa using h)];rfl
   ·rw[if_neg (fun hc=>h hc.symm),if_neg (by simpa using h)];exact ih
theorem Tp(p:List aC)(v:Int):LY v (wk p)=(nx p v).isSome:=by
 induction p using uG with
 |h0=>rfl
 |h1 p x ih=>
  rw[wW,qB];cases hs:x.stay with
  |false=>rw[if_neg (by simp),Bool.false_and,if_neg (by simp)];exact ih
  |true=>
   rw[if_pos rfl,Ib,Bool.true_and];by_cases h:x.a=v
   ·rw[if_pos (by simpa using h)];simp[h]
   ·rw[if_neg (by simpa using h),ih];have:decide (v=x.a)=false:=by simpa using fun hc=>h hc.symm
    rw[this,Bool.false_or]
def nk(p:List aC):List (PV×PV):=tc qC (wk p)
theorem wX(p:List aC)(v:Int):dI (.int .i64 v) (.int .i64 0) (nk p)=.int .i64 ((nx p v).getD 0):=by have:=CO (key:=qC) xR v (.int .i64 0) (wk p);rw[Qi]at this;exact this
theorem zh(p:List aC)(v:Int):tl (.int .i64 v) (nk p)=(nx p v).isSome:=by have:=OC v (wk p);rw[Tp]at this;exact this
theorem LZ(p:List aC)(x:aC):nk (p++[x])=if x.stay=true then eN (.int .i64 x.a) (.int .i64 x.b) (nk p)else nk p:=by
 have:=F1 (key:=qC) xR x.a (.int .i64 x.b) (wk p);unfold nk;rw[wW];by_cases h:x.stay=true
 ·rw[if_pos h,if_pos h];exact this.symm
 ·rw[if_neg h,if_neg h]
def jP(p:List aC):List Int:=(p.filter aC.stay).map aC.b
theorem L2(p:List aC)(x:aC):jP (p++[x])=if x.stay=true then jP p++[x.b]else jP p:=by unfold jP;by_cases h:x.stay=true<;>simp[List.filter_append,List.filter_cons,h]
theorem Qj(p:List aC)(v:Int):(nx p v).isSome=p.any fun y=>y.stay&&decide (y.a=v):=by
 induction p using uG with
 |h0=>rfl
 |h1 p x ih=>
  rw[qB,List.any_append,←ih];by_cases h:(x.stay&&decide (x.a=v))=true
  ·rw[if_pos h];simp only[List.any_cons,List.any_nil,h];simp
  ·rw[if_neg h];simp only[List.any_cons,List.any_nil,h];simp
theorem Tq(p:List aC)(v:Int):decide (v∈jP p)=p.any fun y=>y.stay&&decide (y.b=v):=by
 rw[Bool.eq_iff_iff,decide_eq_true_eq];simp only[jP,decide_eq_true_eq,List.mem_map,List.mem_filter,List.any_eq_true,Bool.and_eq_true];constructor
 ·rintro⟨x,⟨h1,h2⟩,h3⟩;exact⟨x,h1,h2,h3⟩
 ·rintro⟨x,h1,h2,h3⟩;exact⟨x,⟨h1,h2⟩,h3⟩
def ZG(f:Int→Option Int)(a b:Int)(t:Nat):Option (Option PV):=(it f (t+1) a).elim (some (some (.bool false))) fun v=>if v=b then some (some (.bool true))else none
theorem L3(f:Int→Option Int)(b:Int)(n:Nat):∀a,it f (n+1) a=none→cY ((List.range n).findSome? (ZG f a b)) (some (.bool false))=some (.bool ((List.range (n+1)).any fun t=>decide (it f (t+1) a=some b))):=by
 induction n with
 |zero=>intro a h;simp[cY,h]
 |succ n ih=>
  intro a h;rw[List.range_succ_eq_map (n:=n+1),List.range_succ_eq_map (n:=n),List.findSome?_cons,List.any_cons];have h0:it f (0+1) a=f a:=by show(f a).bind (it f 0)=f a;cases hf:f a<;>rfl
  unfold ZG;rw[h0];cases hf:f a with
  |none=>
   have hz:∀t,it f (t+1) a=none:=fun t=>by show(f a).bind _=none;rw[hf];rfl
   simp only[Option.elim,cY,List.any_map,Function.comp_def,hz];simp
  |some v=>
   have hs:∀t,it f (t+1+1) a=it f (t+1) v:=fun t=>by show(f a).bind _=_;rw[hf];rfl
   by_cases hv:v=b
   ·subst hv;simp only[Option.elim,if_true,cY,decide_true,Bool.true_or]
   ·have hd:decide (some v=some b)=false:=by simpa using hv
    simp only[Option.elim,if_neg hv,hd,Bool.false_or];have:=ih v (by rw[←hs];exact h);rw[List.findSome?_map,List.any_map];simp only[Function.comp_def,Nat.succ_eq_add_one,hs];rw[←List.range_succ_eq_map];exact this
theorem L4(p:List aC)(hp:wU (nx p))(hl:p.length≤maxLen)(a b:Int):eX [.rm 3 ((nk p).map fun x=>x.fst) ((nk p).map fun x=>x.snd),.int .i64 a,.int .i64 b]=some (.bool (lK p a b (p.length+1))):=by
 have hz:((nk p).map fun x=>x.fst).zip ((nk p).map fun x=>x.snd)=nk p:=by
  generalize nk p=m;induction m with
  |nil=>rfl
  |cons x m ih=>simp only[List.map_cons,List.zip_cons_cons,ih]
 simp only[eX,qU,dP,if_true,asInt,U,hz,wX,zh];unfold lK;rw[←L3 (nx p) b p.length a (F0 hp (by omega) a)];refine aY (fun t=>(PV.rm 3 ((nk p).map fun x=>x.fst) ((nk p).map fun x=>x.snd),b,(it (nx p) (t+1) a).getD 0,(it (nx p) (t+1) a).isSome,())) p.length _ (fun t ht rec=>?_) (fun rec=>?_) (by have:=aP;omega) ?_
 ·unfold jq ZG;dsimp only;rw[OA (nx p) (t+1) a];cases hv:it (nx p) (t+1) a with
  |none=>rfl
  |some v=>
   simp only[Option.isSome_some,Option.getD_some,if_true,dU,decide_eq_true_eq,Option.elim];by_cases Wf:v=b
   ·rw[if_pos Wf,if_pos Wf];rfl
   ·rw[if_neg Wf,if_neg Wf];simp only[dP,if_true,hz,wX,zh,asInt,U,cY,Option.bind_some]
 ·unfold jq;dsimp only;rw[F0 hp (by omega)];rfl
 ·show(_,b,(it (nx p) 1 a).getD 0,(it (nx p) 1 a).isSome,())=_;have:it (nx p) 1 a=nx p a:=by show(nx p a).bind _=_;cases nx p a<;>rfl
  rw[this]
def aB(runs:List bq)(a:Int):List ao:=((runs[a.toNat]?).map bq.calls).getD []
def ff(cs:List ao)(c:Int):Int:=((cs[c.toNat]?).map ao.stop).getD 0
def uI(x:aC)(R:Int):Bool:= !(decide (x.a≥0)&&decide (x.a<R))|| !(decide (x.b≥0)&&decide (x.b<R))||decide (x.a=x.b)
def uJ(x:aC)(A B:Int):Bool:= !(decide (x.ac≥0)&&decide (x.ac<A))|| !(decide (x.bc≥0)&&decide (x.bc<B))
def pR(p:List aC)(x:aC)(A:Int):Bool:=x.stay&&(!decide (x.ac+1=A)|| !decide (x.bc=0)||(nx p x.a).isSome||decide (x.b∈jP p)||lK p x.b x.a (p.length+1))
def cC(runs:List bq)(l:List aC)(k:Nat):Int:=match l[k]? with
 |none=>0
 |some x=>if uI x runs.length=true then 9 else if uJ x (aB runs x.a).length (aB runs x.b).length=true then 9 else if ff (aB runs x.a) x.ac≠ff (aB runs x.b) x.bc then 13 else if pR (l.take k) x (aB runs x.a).length=true then 19 else if cn x∈(l.map cn).take k then 6 else 0
def hU(runs:List bq)(l:List aC):Int×Int:=if l.length>1024 then(0,5)else bS (cC runs l) l.length
theorem CP(runs:List bq)(l:List aC)(k:Nat)(hk:k≤l.length)(h:∀j,j<k→cC runs l j=0):wU (nx (l.take k))∧∀x∈l.take k,0≤x.a:=by
 induction k with
 |zero=>rw[List.take_zero];exact⟨LV,fun x hx=>by cases hx⟩
 |succ k ih=>
  have jK:k<l.length:=by omega
  obtain⟨h1,h2⟩:=ih (by omega) fun j hj=>h j (by omega);have hz:=h k (by omega);unfold cC at hz;rw[List.getElem?_eq_getElem jK]at hz;simp only at hz;have hr:uI l[k] runs.length=false:=by
   cases hr:uI l[k] runs.length with
   |false=>rfl
   |true=>rw[hr,if_pos rfl]at hz;cases hz
  have hs:pR (l.take k) l[k] (aB runs l[k].a).length=false:=by
   cases hs:pR (l.take k) l[k] (aB runs l[k].a).length with
   |false=>rfl
   |true=>
    rw[hs]at hz;split at hz
    ·cases hz
    ·split at hz
     ·cases hz
     ·split at hz
      ·cases hz
      ·rw[if_pos rfl]at hz;cases hz
  unfold uI at hr;simp only[Bool.or_eq_false_iff,Bool.not_eq_false',Bool.and_eq_true,decide_eq_true_eq,decide_eq_false_iff_not]at hr;rw[List.take_succ_eq_append_getElem jK];refine⟨H9 h1 l[k] ?_,fun x hx=>?_⟩
  ·unfold pR at hs;cases tx:l[k].stay with
   |false=>exact Or.inl rfl
   |true=>
    rw[tx,Bool.true_and]at hs;simp only[Bool.or_eq_false_iff]at hs;refine Or.inr ⟨hr.2,?_,hs.2⟩;have:=hs.1.1.2;cases hn:nx (l.take k) l[k].a with
    |none=>rfl
    |some w=>rw[hn]at this;cases this
  ·rcases List.mem_append.1 hx with hx|hx
   ·exact h2 x hx
   ·rw[List.mem_singleton]at hx;subst hx;exact hr.1.1.1
theorem xS(runs:List bq)(a:Int)(h:0≤a∧a<(runs.length:Int)):∃r∈runs,aQ (runs.map bq.pv) a=some r.pv∧aB runs a=r.calls:=by
 obtain⟨n,rfl⟩:=Int.eq_ofNat_of_zero_le h.1;have hn:n<runs.length:=by omega
 refine⟨runs[n],List.getElem_mem hn,?_,?_⟩
 ·rw[aq,List.getElem?_map,List.getElem?_eq_getElem hn];rfl
 ·unfold aB;rw[Int.toNat_natCast,List.getElem?_eq_getElem hn];rfl
theorem vI(cs:List ao)(c:Int)(h:0≤c∧c<(cs.length:Int)):∃r,aQ (cs.map ao.pv) c=some r∧cell r 0=.int .i64 (ff cs c):=by
 obtain⟨n,rfl⟩:=Int.eq_ofNat_of_zero_le h.1;have hn:n<cs.length:=by omega
 refine⟨cs[n].pv,?_,?_⟩
 ·rw[aq,List.getElem?_map,List.getElem?_eq_getElem hn];rfl
 ·unfold ff;rw[Int.toNat_natCast,List.getElem?_eq_getElem hn];rfl
end Go.Ab.Tt
namespace Go.Ab.Tt
set_option maxRecDepth 100000
set_option linter.unusedVariables false
set_option linter.unusedSimpArgs false
theorem uK{runs:List bq}(h:∀y∈runs,y.Ok)(a:Int):(aB runs a).length≤maxLen:=by
 unfold aB;cases hr:runs[a.toNat]? with
 |none=>simp
 |some r=>exact(h r (List.mem_of_getElem? hr)).calls.1
theorem Ic(N:ag)(runs:List bq)(hr:∀y∈runs,y.Ok)(l:List aC)(hl:l.length≤maxLen)(k:Nat)(hk:k<l.length)(sJ:∀j,j<k→cC runs l j=0)(rec:TY0→Option PV):fG (l.map aC.pv,(l.length:Int),(k:Int),N.stops.map Stop.pv,N.af.map ax.pv,runs.map bq.pv,l.map aC.pv,N.paths.map Path.pv,N.au.map aS.pv,N.aR,N.within,N.cap,0,0,0,nk (l.take k),seen qC (jP (l.take k)),seen Ia ((l.map cn).take k),()) rec=cY (if cC runs l k=0 then none else some (some (r3 3 k (cC runs l k)))) (rec (l.map aC.pv,(l.length:Int),((k+1:Nat):Int),N.stops.map Stop.pv,N.af.map ax.pv,runs.map bq.pv,l.map aC.pv,N.paths.map Path.pv,N.au.map aS.pv,N.aR,N.within,N.cap,0,0,0,nk (l.take (k+1)),seen qC (jP (l.take (k+1))),seen Ia ((l.map cn).take (k+1)),())):=by
 have hm:=aT;have h1:decide ((k:Int)<(l.length:Int))=true:=by simp;omega
 obtain⟨abe,_⟩:=CP runs l k (by omega) sJ;have hlen:(l.take k).length=k:=by simp;omega
 have zi:=L4 (l.take k) abe (by omega) l[k].b l[k].a;have qR:eN (.agg [.int .i64 l[k].a,.int .i64 l[k].ac,.int .i64 l[k].b,.int .i64 l[k].bc]) (.bool true) (seen Ia ((l.map cn).take k))=_:=ni To (cn l[k]) ((l.map cn).take k);have rV:dI (.agg [.int .i64 l[k].a,.int .i64 l[k].ac,.int .i64 l[k].b,.int .i64 l[k].bc]) (.bool false) (seen Ia ((l.map cn).take k))=_:=kS To (cn l[k]) ((l.map cn).take k);have abf:eN (.int .i64 l[k].b) (.bool true) (seen qC (jP (l.take k)))=_:=ni (key:=qC) xR l[k].b (jP (l.take k));have ZH:dI (.int .i64 l[k].b) (.bool false) (seen qC (jP (l.take k)))=_:=kS (key:=qC) xR l[k].b (jP (l.take k));have hsn:l.take (k+1)=l.take k++[l[k]]:=List.take_succ_eq_append_getElem hk;unfold fG;dsimp only;rw[if_pos h1,aq,List.getElem?_map,List.getElem?_eq_getElem hk,hsn,LZ,L2,pI cn l k hk];simp only[Option.map_some,U,CL,HW,link2,HX,EF,asInt,asBool,if_true,List.length_map,wT,aW,dU];unfold cC;rw[List.getElem?_eq_getElem hk];simp only;have hR:(!(decide (l[k].a≥0)&&decide (l[k].a<(runs.length:Int)))|| !(decide (l[k].b≥0)&&decide (l[k].b<(runs.length:Int)))||decide (l[k].a=l[k].b))=uI l[k] runs.length:=rfl;rw[hR];cases hb:uI l[k] runs.length with
 |true=>simp only[if_true,CM,U,Oy,wS,wj,zd];rfl
 |false=>
  unfold uI at hb;simp only[Bool.or_eq_false_iff,Bool.not_eq_false',Bool.and_eq_true,decide_eq_true_eq,decide_eq_false_iff_not]at hb;obtain⟨ra,hra,hia,YR⟩:=xS runs l[k].a ⟨hb.1.1.1,hb.1.1.2⟩;obtain⟨rb,JD,Xk,GP⟩:=xS runs l[k].b ⟨hb.1.2.1,hb.1.2.2⟩;have hA:=uK hr l[k].a;rw[hia,Xk];simp only[U,AQ,ab,if_true,List.length_map,←YR,←GP,wT,asBool,aW];have hC:(!(decide (l[k].ac≥0)&&decide (l[k].ac<((aB runs l[k].a).length:Int)))|| !(decide (l[k].bc≥0)&&decide (l[k].bc<((aB runs l[k].b).length:Int))))=uJ l[k] (aB runs l[k].a).length (aB runs l[k].b).length:=rfl;rw[hC];cases CC:uJ l[k] (aB runs l[k].a).length (aB runs l[k].b).length with
  |true=>simp only[if_true,CM,U,Oy,wS,wj,zd];rfl
  |false=>
   unfold uJ at CC;simp only[Bool.or_eq_false_iff,Bool.not_eq_false',Bool.and_eq_true,decide_eq_true_eq]at CC;obtain⟨ka,YN,hsa⟩:=vI (aB runs l[k].a) l[k].ac CC.1;obtain⟨kb,hkb,YS⟩:=vI (aB runs l[k].b) l[k].bc CC.2;have hw:IntKind.i64.wrap (l[k].ac+1)=l[k].ac+1:=fF (by omega) (by omega);simp only[Bool.false_eq_true,if_false,YN,hkb,U,hsa,YS,wX,zh,rV,ZH,qR,abf,asInt,asBool,if_true,zi,hw,hlen,aW,cT,jy,CM,Oy,wS,wj,zd,ak (show k<9223372036854775807 by omega)];have hS:(l[k].stay&&(!decide (l[k].ac+1=((aB runs l[k].a).length:Int))|| !decide (l[k].bc=0)||(nx (l.take k) l[k].a).isSome||decide (l[k].b∈jP (l.take k))||lK (l.take k) l[k].b l[k].a (k+1)))=pR (l.take k) l[k] (aB runs l[k].a).length:=by unfold pR;rw[hlen]
   rw[hS];generalize pR (l.take k) l[k] (aB runs l[k].a).length=S;by_cases tx:ff (aB runs l[k].a) l[k].ac=ff (aB runs l[k].b) l[k].bc
   ·simp only[tx,decide_true,Bool.not_true,Bool.false_eq_true,if_false,ne_eq,not_true];cases S with
    |true=>rfl
    |false=>
     by_cases bO:cn l[k]∈(l.map cn).take k
     ·simp only[bO,decide_true,if_true,Bool.false_eq_true,if_false];rfl
     ·simp only[bO,decide_false,if_true,Bool.false_eq_true,if_false];cases l[k].stay<;>rfl
   ·simp only[tx,decide_false,Bool.not_false,if_true,ne_eq,not_false_eq_true];rfl
theorem DL(N:ag)(hr:N.runs.length≤maxLen∧∀y∈N.runs,y.Ok)(hl:N.ah.length≤maxLen):cv [N.pv]=some (prt 3 (hU N.runs N.ah)):=by
 have hm:=aT;simp only[cv,kA,mF,nW,nX,nY,nZ,oa,ob,oc,od,og,U,List.length_map];generalize He:N.ah=l at hl⊢;generalize rz:N.runs=runs at hr⊢;unfold hU;by_cases tz:l.length>1024
 ·rw[if_pos (by simp;omega),if_pos tz];rfl
 ·rw[if_neg (by simp;omega),if_neg tz];have hR:some (prt 3 (bS (cC runs l) l.length))=if(bS (cC runs l) l.length).2=0 then some (r3 0 0 0)else some (r3 3 (bS (cC runs l) l.length).1 (bS (cC runs l) l.length).2):=by
   unfold prt;by_cases h:(bS (cC runs l) l.length).2=0
   ·rw[if_pos h,if_pos h]
   ·rw[if_neg h,if_neg h]
  rw[hR,←iu (cC runs l) l.length (fun i e=>r3 3 i e)];refine mS (fun k=>(l.map aC.pv,(l.length:Int),(k:Int),N.stops.map Stop.pv,N.af.map ax.pv,runs.map bq.pv,l.map aC.pv,N.paths.map Path.pv,N.au.map aS.pv,N.aR,N.within,N.cap,0,0,0,nk (l.take k),seen qC (jP (l.take k)),seen Ia ((l.map cn).take k),())) l.length _ (fun k hk sJ rec=>Ic N runs hr.2 l hl k hk (fun j hj=>?_) rec) (fun _ rec=>?_) (by have:=aP;omega) rfl
  ·have:=sJ j hj;by_cases h0:cC runs l j=0
   ·exact h0
   ·rw[if_neg h0]at this;cases this
  ·unfold fG;dsimp only;rw[if_neg (by simp)];rfl
theorem Qk(N:ag)(i:Nat)(hi:i<N.ah.length)(hl:N.ah.length≤maxLen)(hp:∀x∈N.ah.take i,0≤x.a)(a b:Int)(hb:0≤b):jQ [N.pv,.int .i64 i,.int .i64 a,.int .i64 b]=some (.bool (lK (N.ah.take i) a b (i+1))):=by
 have hm:=aT;simp only[jQ,ug,mF,nW,nX,nY,nZ,oa,ob,oc,od,og,U];simp only[asInt,if_true,U];generalize He:N.ah=l at hl hi hp⊢;have afs:nx (l.take i) (-1)=none:=by
  cases hn:nx (l.take i) (-1)with
  |none=>rfl
  |some w=>obtain⟨x,hx,_,hxa,_⟩:=LW hn;have:=hp x hx;omega
 have tK:∀t,(nx (l.take i) ((it (nx (l.take i)) t a).getD (-1))).getD (-1)=(it (nx (l.take i)) (t+1) a).getD (-1):=by
  intro t;rw[OA];cases it (nx (l.take i)) t a with
  |none=>simp only[Option.getD_none,Option.bind_none,afs]
  |some v=>rfl
 have pq:∀(c:Int)(t:Nat)eP,bI.run (lL eP) ((i:Int),c,b,(t:Int),-1,0,N.stops.map Stop.pv,N.af.map ax.pv,N.runs.map bq.pv,l.map aC.pv,N.paths.map Path.pv,N.au.map aS.pv,N.aR,N.within,N.cap,())=if(nx (l.take i) c).getD (-1)=b then some (.bool true)else eP ((i:Int),(nx (l.take i) c).getD (-1),b,IntKind.i64.wrap ((t:Int)+1),N.stops.map Stop.pv,N.af.map ax.pv,N.runs.map bq.pv,l.map aC.pv,N.paths.map Path.pv,N.au.map aS.pv,N.aR,N.within,N.cap,()):=by
  intro c t eP;refine bp (fun k=>((i:Int),c,b,(t:Int),(nx (l.take k) c).getD (-1),(k:Int),N.stops.map Stop.pv,N.af.map ax.pv,N.runs.map bq.pv,l.map aC.pv,N.paths.map Path.pv,N.au.map aS.pv,N.aR,N.within,N.cap,())) i (fun k hk rec=>?_) (fun rec=>?_) (by have:=aP;omega) (by rw[List.take_zero,ZE];rfl)
  ·have h1:decide ((k:Int)<(i:Int))=true:=by simp;omega
   have jK:k<l.length:=by omega
   unfold lL;dsimp only;rw[if_pos h1,aq,List.getElem?_map,List.getElem?_eq_getElem jK,List.take_succ_eq_append_getElem jK,qB];simp only[Option.map_some,U,CL,link2,EF,asInt,asBool,if_true,cT,dU,ak (show k<9223372036854775807 by omega)];by_cases hc:(l[k].stay&&decide (l[k].a=c))=true
   ·rw[if_pos hc,if_pos hc];rfl
   ·rw[if_neg hc,if_neg hc]
  ·unfold lL;dsimp only;rw[if_neg (by simp)];simp only[dU,decide_eq_true_eq]
 unfold lK;have mq:bI.run (lM bI) ((i:Int),a,b,0,N.stops.map Stop.pv,N.af.map ax.pv,N.runs.map bq.pv,l.map aC.pv,N.paths.map Path.pv,N.au.map aS.pv,N.aR,N.within,N.cap,())=if((List.range (i+1)).any fun t=>decide (it (nx (l.take i)) (t+1) a=some b))=true then some (PV.bool true)else some (PV.bool false):=by
  refine pL (fun t:Nat=>((i:Int),(it (nx (l.take i)) t a).getD (-1),b,(t:Int),N.stops.map Stop.pv,N.af.map ax.pv,N.runs.map bq.pv,l.map aC.pv,N.paths.map Path.pv,N.au.map aS.pv,N.aR,N.within,N.cap,())) (i+1) (fun t=>decide (it (nx (l.take i)) (t+1) a=some b)) (no:=some (PV.bool true)) (fin:=some (PV.bool false)) (fun t ht rec=>?_) (fun rec=>?_) (by have:=aP;omega) rfl
  ·have h1:decide ((t:Int)≤(i:Int))=true:=by simp;omega
   unfold lM;dsimp only;rw[if_pos h1,pq,tK,ak (by omega)];cases hv:it (nx (l.take i)) (t+1) a with
   |none=>rw[if_neg (by simp only[Option.getD_none];omega),if_neg (by simp)]
   |some v=>
    by_cases Wf:v=b
    ·rw[if_pos (by simpa using Wf),if_pos (by simpa using Wf)]
    ·rw[if_neg (by simpa using Wf),if_neg (by simpa using Wf)]
  ·unfold lM;dsimp only;rw[if_neg (by simp;omega)]
 rw[mq];cases(List.range (i+1)).any fun t=>decide (it (nx (l.take i)) (t+1) a=some b)<;>rfl
theorem Ql(l:List aC)(P:aC→Bool)(k:Nat)(hk:k≤l.length):((List.range k).any fun j=>(l[j]?).elim false P)=(l.take k).any P:=by
 induction k with
 |zero=>rfl
 |succ k ih=>
  have jK:k<l.length:=by omega
  rw[List.range_succ,List.any_append,ih (by omega),List.take_succ_eq_append_getElem jK,List.any_append];simp only[List.any_cons,List.any_nil,List.getElem?_eq_getElem jK,Option.elim]
theorem Tr(N:ag)(hr:N.runs.length≤maxLen∧∀y∈N.runs,y.Ok)(hl:N.ah.length≤maxLen)(k:Nat)(hk:k<N.ah.length)(sJ:∀j,j<k→cC N.runs N.ah j=0):lN [N.pv,.int .i64 k]=some (.int .i64 (cC N.runs N.ah k)):=by
 have hm:=aT;obtain⟨_,dK⟩:=CP N.runs N.ah k (by omega) sJ;have zi:=fun a b hb=>Qk N k hk hl dK a b hb;have hE:=tu N;simp only[lN,wM,mF,nW,nX,nY,nZ,oa,ob,oc,od,og,U];rw[←tu N]at zi;generalize He:N.ah=l at hl hk dK zi⊢;generalize rz:N.runs=runs at hr zi⊢;have hw0:IntKind.i64.wrap ((runs.length:Int)-1)=(runs.length:Int)-1:=fF (by omega) (by omega);simp only[asInt,if_true,U,aq,List.getElem?_map,List.getElem?_eq_getElem hk,Option.map_some,CL,HW,link2,HX,EF,asBool,List.length_map,hw0,CI,aW,dU];unfold cC;rw[List.getElem?_eq_getElem hk];simp only;have hR:(!(decide (l[k].a≥0)&&decide (l[k].a≤(runs.length:Int)-1))|| !(decide (l[k].b≥0)&&decide (l[k].b≤(runs.length:Int)-1))||decide (l[k].a=l[k].b))=uI l[k] runs.length:=by unfold uI;rw[Bool.eq_iff_iff];simp only[Bool.or_eq_true,Bool.not_eq_true',Bool.and_eq_false_iff,decide_eq_true_eq,decide_eq_false_iff_not];omega
 rw[hR];cases hb:uI l[k] runs.length with
 |true=>simp only[if_true]
 |false=>
  unfold uI at hb;simp only[Bool.or_eq_false_iff,Bool.not_eq_false',Bool.and_eq_true,decide_eq_true_eq,decide_eq_false_iff_not]at hb;obtain⟨ra,hra,hia,YR⟩:=xS runs l[k].a ⟨hb.1.1.1,hb.1.1.2⟩;obtain⟨rb,JD,Xk,GP⟩:=xS runs l[k].b ⟨hb.1.2.1,hb.1.2.2⟩;have hA:=uK hr.2 l[k].a;have hB:=uK hr.2 l[k].b;rw[hia,Xk];simp only[U,AQ,ab,if_true,List.length_map,←YR,←GP];have hwA:IntKind.i64.wrap (((aB runs l[k].a).length:Int)-1)=((aB runs l[k].a).length:Int)-1:=fF (by omega) (by omega);have hwB:IntKind.i64.wrap (((aB runs l[k].b).length:Int)-1)=((aB runs l[k].b).length:Int)-1:=fF (by omega) (by omega);simp only[hwA,hwB,CI,asBool,U,aW];have hC:(!(decide (l[k].ac≥0)&&decide (l[k].ac≤((aB runs l[k].a).length:Int)-1))|| !(decide (l[k].bc≥0)&&decide (l[k].bc≤((aB runs l[k].b).length:Int)-1)))=uJ l[k] (aB runs l[k].a).length (aB runs l[k].b).length:=by unfold uJ;rw[Bool.eq_iff_iff];simp only[Bool.or_eq_true,Bool.not_eq_true',Bool.and_eq_false_iff,decide_eq_true_eq,decide_eq_false_iff_not];omega
  rw[hC];cases CC:uJ l[k] (aB runs l[k].a).length (aB runs l[k].b).length with
  |true=>simp only[if_true,Bool.false_eq_true,if_false]
  |false=>
   unfold uJ at CC;simp only[Bool.or_eq_false_iff,Bool.not_eq_false',Bool.and_eq_true,decide_eq_true_eq]at CC;obtain⟨ka,YN,hsa⟩:=vI (aB runs l[k].a) l[k].ac CC.1;obtain⟨kb,hkb,YS⟩:=vI (aB runs l[k].b) l[k].bc CC.2;simp only[Bool.false_eq_true,if_false,YN,hkb,U,hsa,YS,asInt,asBool,if_true,aW,cT,jy];by_cases tx:ff (aB runs l[k].a) l[k].ac=ff (aB runs l[k].b) l[k].bc
   ·simp only[tx,decide_true,Bool.not_true,Bool.false_eq_true,if_false,ne_eq,not_true];have CQ:bI.run mU ((k:Int),0,N.stops.map Stop.pv,N.af.map ax.pv,runs.map bq.pv,l.map aC.pv,N.paths.map Path.pv,N.au.map aS.pv,N.aR,N.within,N.cap,.int .i64 l[k].a,.int .i64 l[k].ac,.int .i64 l[k].b,.int .i64 l[k].bc,.bool l[k].stay,())=if cn l[k]∈(l.map cn).take k then some (.int .i64 6)else some (.int .i64 0):=by
     refine(pL (fun j=>((k:Int),(j:Int),N.stops.map Stop.pv,N.af.map ax.pv,runs.map bq.pv,l.map aC.pv,N.paths.map Path.pv,N.au.map aS.pv,N.aR,N.within,N.cap,PV.int .i64 l[k].a,PV.int .i64 l[k].ac,PV.int .i64 l[k].b,PV.int .i64 l[k].bc,PV.bool l[k].stay,())) k (fun j=>decide ((l.map cn)[j]?=some (cn l[k]))) (no:=some (.int .i64 6)) (fin:=some (.int .i64 0)) (fun j hj rec=>?_) (fun rec=>?_) (by have:=aP;omega) rfl).trans ?_
     ·have h1:decide ((j:Int)<(k:Int))=true:=by simp;omega
      have GO:j<l.length:=by omega
      have hd:decide ((l.map cn)[j]?=some (cn l[k]))=(decide (l[j].a=l[k].a)&&decide (l[j].ac=l[k].ac)&&decide (l[j].b=l[k].b)&&decide (l[j].bc=l[k].bc)):=by rw[Bool.eq_iff_iff];simp[List.getElem?_eq_getElem GO,cn,and_assoc]
      rw[hd];unfold mU;dsimp only;rw[if_pos h1,aq,List.getElem?_map,List.getElem?_eq_getElem GO];simp only[Option.map_some,U,CL,HW,link2,HX,asInt,if_true,ak (show j<9223372036854775807 by omega),dU,cT]
     ·unfold mU;dsimp only;rw[if_neg (by simp)]
     ·rw[Be _ _ (by simp;omega)];simp only[decide_eq_true_eq]
    have aft:bI.run (mV bI) ((k:Int),0,N.stops.map Stop.pv,N.af.map ax.pv,runs.map bq.pv,l.map aC.pv,N.paths.map Path.pv,N.au.map aS.pv,N.aR,N.within,N.cap,.int .i64 l[k].a,.int .i64 l[k].ac,.int .i64 l[k].b,.int .i64 l[k].bc,.bool l[k].stay,())=if(l[k].stay&&((nx (l.take k) l[k].a).isSome||decide (l[k].b∈jP (l.take k))))=true then some (.int .i64 19)else if(l[k].stay&&lK (l.take k) l[k].b l[k].a (k+1))=true then some (.int .i64 19)else if cn l[k]∈(l.map cn).take k then some (.int .i64 6)else some (.int .i64 0):=by
     refine(pL (fun j=>((k:Int),(j:Int),N.stops.map Stop.pv,N.af.map ax.pv,runs.map bq.pv,l.map aC.pv,N.paths.map Path.pv,N.au.map aS.pv,N.aR,N.within,N.cap,PV.int .i64 l[k].a,PV.int .i64 l[k].ac,PV.int .i64 l[k].b,PV.int .i64 l[k].bc,PV.bool l[k].stay,())) k (fun j=>(l[j]?).elim false fun y=>l[k].stay&&y.stay&&(decide (y.a=l[k].a)||decide (y.b=l[k].b))) (no:=some (.int .i64 19)) (fin:=if(l[k].stay&&lK (l.take k) l[k].b l[k].a (k+1))=true then some (.int .i64 19)else if cn l[k]∈(l.map cn).take k then some (.int .i64 6)else some (.int .i64 0)) (fun j hj rec=>?_) (fun rec=>?_) (by have:=aP;omega) rfl).trans ?_
     ·have h1:decide ((j:Int)<(k:Int))=true:=by simp;omega
      have GO:j<l.length:=by omega
      rw[List.getElem?_eq_getElem GO];unfold mV;dsimp only;rw[if_pos h1,aq,List.getElem?_map,List.getElem?_eq_getElem GO];simp only[Option.map_some,U,CL,link2,EF,asInt,asBool,if_true,ak (show j<9223372036854775807 by omega),dU,cT,aW,Option.elim];rfl
     ·unfold mV;dsimp only;rw[if_neg (by simp),CQ];have:=zi l[k].b l[k].a (by have:=hb.1.1.1;omega);simp only[asBool,asInt,if_true,U,this,cT]
     ·rw[Ql l _ k (by omega)];have Zf:((l.take k).any fun y=>l[k].stay&&y.stay&&(decide (y.a=l[k].a)||decide (y.b=l[k].b)))=(l[k].stay&&((nx (l.take k) l[k].a).isSome||decide (l[k].b∈jP (l.take k)))):=by
       rw[Qj,Tq];cases l[k].stay with
       |false=>simp
       |true=>
        rw[Bool.eq_iff_iff];simp only[Bool.true_and,Bool.or_eq_true,List.any_eq_true,Bool.and_eq_true,decide_eq_true_eq];constructor
        ·rintro⟨x,h1,h2,h3|h3⟩
         ·exact Or.inl ⟨x,h1,h2,h3⟩
         ·exact Or.inr ⟨x,h1,h2,h3⟩
        ·rintro(⟨x,h1,h2,h3⟩|⟨x,h1,h2,h3⟩)
         ·exact⟨x,h1,h2,Or.inl h3⟩
         ·exact⟨x,h1,h2,Or.inr h3⟩
      rw[Zf]
    rw[aft];have hlen:(l.take k).length=k:=by simp;omega
    have hac:decide (l[k].ac=((aB runs l[k].a).length:Int)-1)=decide (l[k].ac+1=((aB runs l[k].a).length:Int)):=by rw[Bool.eq_iff_iff];simp only[decide_eq_true_eq];omega
    rw[hac];unfold pR;rw[hlen];generalize (!decide (l[k].ac+1=((aB runs l[k].a).length:Int)))=X1;generalize (!decide (l[k].bc=0))=X2;generalize (nx (l.take k) l[k].a).isSome=X3;generalize decide (l[k].b∈jP (l.take k))=X4;generalize lK (l.take k) l[k].b l[k].a (k+1)=X5;by_cases bO:cn l[k]∈(l.map cn).take k
    ·simp only[bO,if_true];cases l[k].stay<;>cases X1<;>cases X2<;>cases X3<;>cases X4<;>cases X5<;>rfl
    ·simp only[bO,if_false];cases l[k].stay<;>cases X1<;>cases X2<;>cases X3<;>cases X4<;>cases X5<;>rfl
   ·simp only[tx,decide_false,Bool.not_false,if_true,ne_eq,not_false_eq_true,Bool.false_eq_true,if_false]
end Go.Ab.Tt
namespace Go.Ab.Tt
set_option maxRecDepth 100000
set_option linter.unusedVariables false
set_option linter.unusedSimpArgs false
def dg(N:ag):Int×Int×Int:=
 if(gQ N.stops).2=0 then
  if(fA N.af).2=0 then
   if(gg N.runs N.stops.length N.af.length).2=0 then
    if(hU N.runs N.ah).2=0 then
     if(cU N.paths N.stops.length).2=0 then if(dG N.au N.aR N.within N.cap).2=0 then(0,0,0)else(5,dG N.au N.aR N.within N.cap)
     else(4,cU N.paths N.stops.length)
    else(3,hU N.runs N.ah)
   else(2,gg N.runs N.stops.length N.af.length)
  else(1,fA N.af)
 else(0,gQ N.stops)
def ga(x:Int×Int×Int):PV:=.aZ [.int .i64 x.1,.int .i64 x.2.1,.int .i64 x.2.2]
theorem r3E(p i e:Int):PV.agg [cell (r3 p i e) 0,cell (r3 p i e) 1,cell (r3 p i e) 2]=r3 p i e:=rfl
theorem XH(p i e:Int):PV.agg [.int .i64 p,.int .i64 i,.int .i64 e]=r3 p i e:=rfl
theorem uM(p i e q j f:Int):cH [.rs 3 [r3 p i e,r3 q j f]]=some (if e=0 then(if f=0 then r3 0 0 0 else r3 q j f)else r3 p i e):=by
 simp only[cH,q9,ab,if_true,U];have h0:=aY (body:=gu) (fun k=>([r3 p i e,r3 q j f],(2:Int),(k:Int),0,0,0,())) 2 (fun k=>if k=0 then(if e=0 then none else some (some (r3 p i e)))else(if f=0 then none else some (some (r3 q j f)))) (fin:=some (r3 0 0 0)) (fun k hk rec=>?_) (fun rec=>?_) (by decide) (s0:=([r3 p i e,r3 q j f],(2:Int),0,0,0,0,())) rfl
 ·refine h0.trans ?_;have:List.range 2=[0,1]:=rfl;rw[this];by_cases he:e=0
  ·by_cases hf:f=0<;>simp[he,hf,cY]
  ·simp[he,cY]
 ·have h2:k=0∨k=1:=by omega
  rcases h2 with rfl|rfl
  ·unfold gu;dsimp only;rw[if_pos (by simp),aq];simp only[List.getElem?_cons_zero,U,zd,asInt,if_true,jy,r3E,ak (show 0<9223372036854775807 by omega)];by_cases he:e=0
   ·simp only[he,decide_true,Bool.not_true,Bool.false_eq_true,if_false,if_true];rfl
   ·simp only[he,decide_false,Bool.not_false,if_false,if_true];rfl
  ·unfold gu;dsimp only;rw[if_pos (by simp),aq];simp only[List.getElem?_cons_succ,List.getElem?_cons_zero,U,zd,asInt,if_true,jy,r3E,ak (show 1<9223372036854775807 by omega)];by_cases he:f=0
   ·simp only[he,decide_true,Bool.not_true,Bool.false_eq_true,if_false,if_true];rfl
   ·simp only[he,decide_false,Bool.not_false,if_false,if_true];rfl
 ·unfold gu;dsimp only;rw[if_neg (by simp)];rfl
theorem L5(p:Int)(x:Int×Int):prt p x=if x.2=0 then r3 0 0 0 else r3 p x.1 x.2:=rfl
theorem zj{l:List Stop}(h:(gQ l).2=0):l.length≤64:=by
 unfold gQ at h;by_cases tz:l.length>64
 ·rw[if_pos tz]at h;cases h
 ·omega
theorem Ao(a b:Int):(a==b)=decide (a=b):=dU a b
theorem CR(N:ag)(h:N.Ok)(hp:N.paths.length≤4096):ec [N.pv]=some (ga (dg N)):=by
 have hs:=Qc N.stops h.stops;have hr:=LJ N.af h.af;have hu:=FZ N h.runs;have hl:=DL N h.runs h.ah.1;have hf:=LL N.au N.aR N.within N.cap h.au;unfold vH at hf;simp only[ec,qW,mF,nW,nX,nY,nZ,oa,ob,oc,od,og,U,tu];simp only[hs,hr,hf,hu,hl,U,res,bA,List.length_cons,List.length_nil,Nat.reduceAdd,if_true,List.getD_cons_zero,List.getD_cons_succ,CM,Oy,XH,uM];unfold dg;by_cases h1:(gQ N.stops).2=0
 ·have hpa:=DJ N (zj h1) hp;simp only[hpa,U,h1,if_true];by_cases h2:(fA N.af).2=0
  ·simp only[h2,if_true];rw[L5 2,L5 3,L5 4];by_cases h3:(gg N.runs N.stops.length N.af.length).2=0
   ·simp only[h3,if_true];by_cases h4:(hU N.runs N.ah).2=0
    ·simp only[h4,if_true];by_cases h5:(cU N.paths N.stops.length).2=0
     ·simp only[h5,if_true];by_cases h6:(dG N.au N.aR N.within N.cap).2=0
      ·simp only[h6,if_true,Oy,XH,wS,wj,zd,asInt,U,uM,Ao,decide_true,decide_false,Bool.false_eq_true,ga]
      ·simp only[h6,if_true,if_false,Oy,XH,wS,wj,zd,asInt,U,uM,Ao,decide_true,decide_false,Bool.false_eq_true,ga]
     ·simp only[h5,if_true,if_false,Oy,XH,wS,wj,zd,asInt,U,uM,Ao,decide_true,decide_false,Bool.false_eq_true,ga]
    ·simp only[h4,if_true,if_false,Oy,XH,wS,wj,zd,asInt,U,uM,Ao,decide_true,decide_false,Bool.false_eq_true,ga]
   ·simp only[h3,if_true,if_false,Oy,XH,wS,wj,zd,asInt,U,uM,Ao,decide_true,decide_false,Bool.false_eq_true,ga]
  ·simp only[h2,if_true,if_false,Oy,XH,wS,wj,zd,asInt,U,uM,Ao,decide_true,decide_false,Bool.false_eq_true,ga]
 ·simp only[h1,if_true,if_false,Oy,XH,wS,wj,zd,asInt,U,uM,Ao,decide_true,decide_false,Bool.false_eq_true,ga]
theorem F2(N:ag)(h:N.Ok)(hn:N.stops.length≤64)(hp:N.paths.length≤4096):bI.run lO (0,N.stops.map Stop.pv,N.af.map ax.pv,N.runs.map bq.pv,N.ah.map aC.pv,N.paths.map Path.pv,N.au.map aS.pv,N.aR,N.within,N.cap,())=some (ga (if(bS (cC N.runs N.ah) N.ah.length).2=0 then
  if(cU N.paths N.stops.length).2=0 then if(dG N.au N.aR N.within N.cap).2=0 then(0,0,0)else(5,dG N.au N.aR N.within N.cap)
  else(4,cU N.paths N.stops.length)
 else(3,bS (cC N.runs N.ah) N.ah.length))):=by
 have hm:=aT
 have Sb:=h.ah.1
 have hpa:=Qh N hn hp
 have hf:=Qe N.au N.aR N.within N.cap h.au
 unfold vH at hf
 have hg:=iu (cC N.runs N.ah) N.ah.length (fun i e=>ga (3,i,e)) (some (ga (if(cU N.paths N.stops.length).2=0 then if(dG N.au N.aR N.within N.cap).2=0 then(0,0,0)else(5,dG N.au N.aR N.within N.cap)else(4,cU N.paths N.stops.length))))
 have hR:(if(bS (cC N.runs N.ah) N.ah.length).2=0 then(some (ga (if(cU N.paths N.stops.length).2=0 then if(dG N.au N.aR N.within N.cap).2=0 then(0,0,0)else(5,dG N.au N.aR N.within N.cap)else(4,cU N.paths N.stops.length))))else some (ga (3,(bS (cC N.runs N.ah) N.ah.length).1,(bS (cC N.runs N.ah) N.ah.length).2)))=some (ga (if(bS (cC N.runs N.ah) N.ah.length).2=0 then
   if(cU N.paths N.stops.length).2=0 then if(dG N.au N.aR N.within N.cap).2=0 then(0,0,0)else(5,dG N.au N.aR N.within N.cap)
   else(4,cU N.paths N.stops.length)
  else(3,bS (cC N.runs N.ah) N.ah.length))):=by
  by_cases hz:(bS (cC N.runs N.ah) N.ah.length).2=0
  ·rw[if_pos hz,if_pos hz]
  ·rw[if_neg hz,if_neg hz]
 rw[←hR,←hg]
 refine mS (fun k=>((k:Int),N.stops.map Stop.pv,N.af.map ax.pv,N.runs.map bq.pv,N.ah.map aC.pv,N.paths.map Path.pv,N.au.map aS.pv,N.aR,N.within,N.cap,())) N.ah.length _ (fun k hk sJ rec=>?_) (fun _ rec=>?_) (by have:=aP;omega) rfl
 ·have abg:∀j,j<k→cC N.runs N.ah j=0:=fun j hj=>by
   have:=sJ j hj;by_cases h0:cC N.runs N.ah j=0
   ·exact h0
   ·rw[if_neg h0]at this;cases this
  have VV:=Tr N h.runs Sb k hk abg;have h1:decide ((k:Int)<((N.ah.map aC.pv).length:Int))=true:=by simp;omega
  unfold lO;dsimp only;rw[if_pos h1,tu,VV];simp only[U,asInt,if_true,jy,ak (show k<9223372036854775807 by omega)];by_cases he:cC N.runs N.ah k=0
  ·simp only[he,decide_true,Bool.not_true,Bool.false_eq_true,if_false,if_true];rfl
  ·simp only[he,decide_false,Bool.not_false,if_false,if_true];rfl
 ·unfold lO;dsimp only;rw[if_neg (by simp),tu,hpa];simp only[U,res,bA,List.length_cons,List.length_nil,Nat.reduceAdd,if_true,List.getD_cons_zero,List.getD_cons_succ,asInt,jy,hf];by_cases h5:(cU N.paths N.stops.length).2=0
  ·simp only[h5,decide_true,Bool.not_true,Bool.false_eq_true,if_false,if_true];by_cases h6:(dG N.au N.aR N.within N.cap).2=0
   ·simp only[h6,decide_true,Bool.not_true,Bool.false_eq_true,if_false,if_true,ga]
   ·simp only[h6,decide_false,Bool.not_false,Bool.false_eq_true,if_false,if_true,ga]
  ·simp only[h5,decide_false,Bool.not_false,Bool.false_eq_true,if_false,if_true,ga]
theorem Qm(N:ag)(h:N.Ok)(hp:N.paths.length≤4096):jR [N.pv]=some (ga (dg N)):=by
 have hm:=aT;have cM:4096≤maxLen:=by decide
 have hs:=Qd N.stops h.stops;have hr:=LK N.af h.af;simp only[jR,uo,mF,nW,nX,nY,nZ,oa,ob,oc,od,og,U];simp only[hs,hr,U,res,bA,List.length_cons,List.length_nil,Nat.reduceAdd,if_true,List.getD_cons_zero,List.getD_cons_succ,asInt,jy];unfold dg;by_cases h1:(gQ N.stops).2=0
 ·have s9:=F2 N h (zj h1) hp;simp only[h1,decide_true,Bool.not_true,Bool.false_eq_true,if_false,if_true];by_cases h2:(fA N.af).2=0
  ·simp only[h2,decide_true,Bool.not_true,Bool.false_eq_true,if_false,if_true];unfold gg;by_cases tz:N.runs.length>1024
   ·rw[if_pos (by simp;omega),if_pos tz];rfl
   ·rw[if_neg (by simp;omega),if_neg tz];generalize hE:jb N.runs N.stops.length N.af.length=E;generalize hF:(if(hU N.runs N.ah).2=0 then
     if(cU N.paths N.stops.length).2=0 then if(dG N.au N.aR N.within N.cap).2=0 then((0:Int),(0:Int),(0:Int))else(5,dG N.au N.aR N.within N.cap)
     else(4,cU N.paths N.stops.length)
    else(3,hU N.runs N.ah))=F
    have hg:=iu E N.runs.length (fun i e=>ga (2,i,e)) (some (ga F));have hR:(if(bS E N.runs.length).2=0 then some (ga F)else some (ga (2,(bS E N.runs.length).1,(bS E N.runs.length).2)))=some (ga (if(bS E N.runs.length).2=0 then F else(2,bS E N.runs.length))):=by
     by_cases hz:(bS E N.runs.length).2=0
     ·rw[if_pos hz,if_pos hz]
     ·rw[if_neg hz,if_neg hz]
    rw[←hR,←hg];refine aY (fun k=>((k:Int),N.stops.map Stop.pv,N.af.map ax.pv,N.runs.map bq.pv,N.ah.map aC.pv,N.paths.map Path.pv,N.au.map aS.pv,N.aR,N.within,N.cap,())) N.runs.length _ (fun k hk rec=>?_) (fun rec=>?_) (by have:=aP;omega) rfl
    ·have AG:=Wd N h.runs k hk;rw[hE]at AG;have h1:decide ((k:Int)<((N.runs.map bq.pv).length:Int))=true:=by simp;omega
     unfold pS;dsimp only;rw[if_pos h1,tu,AG];simp only[U,asInt,if_true,jy,ak (show k<9223372036854775807 by omega)];by_cases he:E k=0
     ·simp only[he,decide_true,Bool.not_true,Bool.false_eq_true,if_false,if_true];rfl
     ·simp only[he,decide_false,Bool.not_false,if_false,if_true];rfl
    ·unfold pS;dsimp only;rw[if_neg (by simp),←hF];unfold hU;by_cases GN:N.ah.length>1024
     ·rw[if_pos (by simp;omega),if_pos GN];rfl
     ·rw[if_neg (by simp;omega),if_neg GN,s9]
  ·simp only[h2,decide_false,Bool.not_false,Bool.false_eq_true,if_false,if_true,ga]
 ·simp only[h1,decide_false,Bool.not_false,Bool.false_eq_true,if_false,if_true,ga]
end Go.Ab.Tt
namespace Go.Ab.Tt
set_option maxRecDepth 100000
set_option linter.unusedVariables false
set_option linter.unusedSimpArgs false
theorem L6{N:ag}(h:(dg N).2.2=0):∀k,k<N.runs.length→jb N.runs N.stops.length N.af.length k=0:=by
 unfold dg at h;by_cases h1:(gQ N.stops).2=0
 ·rw[if_pos h1]at h;by_cases h2:(fA N.af).2=0
  ·rw[if_pos h2]at h;by_cases h3:(gg N.runs N.stops.length N.af.length).2=0
   ·unfold gg at h3;by_cases tz:N.runs.length>1024
    ·rw[if_pos tz]at h3;cases h3
    ·rw[if_neg tz]at h3;exact(mG _ _).1 h3
   ·rw[if_neg h3]at h;exact absurd h h3
  ·rw[if_neg h2]at h;exact absurd h h2
 ·rw[if_neg h1]at h;exact absurd h h1
theorem uN{N:ag}(h:(dg N).2.2=0):∀r∈N.runs,(bj r.calls N.stops.length 0 3155932800).2=0:=by
 intro r hr;obtain⟨k,hk,rfl⟩:=List.getElem_of_mem hr;have:=L6 h k hk;unfold jb at this;rw[List.getElem?_eq_getElem hk]at this;simp only at this;by_cases hc:(bj N.runs[k].calls N.stops.length 0 3155932800).2=0
 ·exact hc
 ·rw[if_neg hc]at this;split at this
  ·cases this
  ·split at this
   ·cases this
   ·split at this
    ·cases this
    ·split at this
     ·cases this
     ·exact absurd this hc
theorem uO{l:List ao}{n a b:Int}(h:(bj l n a b).2=0):2≤l.length∧l.length≤32:=by
 unfold bj at h;by_cases hc:(decide ((l.length:Int)<2)||decide ((l.length:Int)>32))=true
 ·rw[if_pos hc]at h;cases h
 ·simp only[Bool.or_eq_true,decide_eq_true_eq,not_or]at hc;omega
theorem Ap{l:List ao}{n a b:Int}(h:(bj l n a b).2=0):∀k,k<l.length→lG l n a b k=0:=by
 unfold bj at h;by_cases hc:(decide ((l.length:Int)<2)||decide ((l.length:Int)>32))=true
 ·rw[if_pos hc]at h;cases h
 ·rw[if_neg hc]at h;exact(mG _ _).1 h
theorem pT{c:ao}{p:Option ao}{n a b:Int}(h:kT c p n a b=0):c.arr≤c.dep∧a≤c.arr∧c.dep≤b∧∀q,p=some q→q.dep≤c.arr:=by
 unfold kT at h;cases p with
 |none=>
  dsimp only at h;by_cases hA:(decide (c.stop<0)||decide (c.stop≥n))=true
  ·rw[if_pos hA]at h;cases h
  ·rw[if_neg hA,if_neg (by simp)]at h;by_cases hC:(decide (c.arr<a)||decide (c.arr>c.dep)||decide (c.dep>b)||false)=true
   ·rw[if_pos hC]at h;cases h
   ·simp only[Bool.or_eq_true,decide_eq_true_eq,not_or]at hC;exact⟨by omega,by omega,by omega,fun q hq=>by cases hq⟩
 |some r=>
  dsimp only at h;by_cases hA:(decide (c.stop<0)||decide (c.stop≥n))=true
  ·rw[if_pos hA]at h;cases h
  ·rw[if_neg hA]at h;by_cases hB:decide (r.stop=c.stop)=true
   ·rw[if_pos hB]at h;cases h
   ·rw[if_neg hB]at h;by_cases hC:(decide (c.arr<a)||decide (c.arr>c.dep)||decide (c.dep>b)||decide (c.arr<r.dep))=true
    ·rw[if_pos hC]at h;cases h
    ·simp only[Bool.or_eq_true,decide_eq_true_eq,not_or]at hC;exact⟨by omega,by omega,by omega,fun q hq=>by cases hq;omega⟩
end Go.Ab.Tt
namespace Go.Ab.Tt
set_option maxRecDepth 100000
set_option linter.unusedVariables false
set_option linter.unusedSimpArgs false
theorem Stop.peq(x y:Stop):cA [cell x.pv 0,cell x.pv 1,cell x.pv 2,cell x.pv 3] [cell y.pv 0,cell y.pv 1,cell y.pv 2,cell y.pv 3]=decide (x=y):=by cases x;cases y;rw[Bool.eq_iff_iff];simp[cell,Stop.pv,PV.cells,cA,Ab.peq]
theorem ax.peq(x y:ax):cA [cell x.pv 0,cell x.pv 1,cell x.pv 2] [cell y.pv 0,cell y.pv 1,cell y.pv 2]=decide (x=y):=by cases x;cases y;rw[Bool.eq_iff_iff];simp[cell,ax.pv,PV.cells,cA,Ab.peq]
theorem ao.peq(x y:ao):cA [cell x.pv 0,cell x.pv 1,cell x.pv 2,cell x.pv 3,cell x.pv 4] [cell y.pv 0,cell y.pv 1,cell y.pv 2,cell y.pv 3,cell y.pv 4]=decide (x=y):=by cases x;cases y;rw[Bool.eq_iff_iff];simp[cell,ao.pv,PV.cells,cA,Ab.peq]
theorem aC.peq(x y:aC):cA [cell x.pv 0,cell x.pv 1,cell x.pv 2,cell x.pv 3,cell x.pv 4] [cell y.pv 0,cell y.pv 1,cell y.pv 2,cell y.pv 3,cell y.pv 4]=decide (x=y):=by cases x;cases y;rw[Bool.eq_iff_iff];simp[cell,aC.pv,PV.cells,cA,Ab.peq]
theorem Path.peq(x y:Path):cA [cell x.pv 0,cell x.pv 1,cell x.pv 2,cell x.pv 3] [cell y.pv 0,cell y.pv 1,cell y.pv 2,cell y.pv 3]=decide (x=y):=by cases x;cases y;rw[Bool.eq_iff_iff];simp[cell,Path.pv,PV.cells,cA,Ab.peq]
theorem aS.peq(x y:aS):cA [cell x.pv 0,cell x.pv 1,cell x.pv 2,cell x.pv 3,cell x.pv 4,cell x.pv 5] [cell y.pv 0,cell y.pv 1,cell y.pv 2,cell y.pv 3,cell y.pv 4,cell y.pv 5]=decide (x=y):=by cases x;cases y;rw[Bool.eq_iff_iff];simp[cell,aS.pv,PV.cells,cA,Ab.peq]
theorem oi{a b:Nat}:((a:Int) !=(b:Int))= !decide (a=b):=by rw[Bool.eq_iff_iff];simp;omega
theorem F3{c:Prop}[Decidable c]:(if c then some (PV.bool true)else some (PV.bool false))=some (PV.bool (decide c)):=by by_cases h:c<;>simp[h]
theorem qm(a b:List ao)(ha:a.length≤maxLen):cj [.rs 5 (a.map ao.pv),.rs 5 (b.map ao.pv)]=some (.bool (decide (a=b))):=by
 have hm:=aT;simp only[cj,gO,ab,if_true,U,List.length_map];by_cases h:a.length=b.length
 ·rw[if_neg (by rw[oi];simp[h])];refine(aY (fun k=>(a.map ao.pv,b.map ao.pv,(a.length:Int),(k:Int),())) a.length (fun k=>if a[k]?=b[k]? then none else some (some (PV.bool false))) (fun k hk rec=>?_) (fin:=some (PV.bool true)) (fun rec=>?_) (by have:=aP;omega) rfl).trans ?_
  ·have h1:decide ((k:Int)<(a.length:Int))=true:=by simp;omega
   have jK:k<b.length:=by omega
   unfold fH;dsimp only;try rw[List.length_map]
   rw[if_pos h1,aq,aq,List.getElem?_map,List.getElem?_map,List.getElem?_eq_getElem hk,List.getElem?_eq_getElem jK];simp only[Option.map_some,U];rw[if_pos ⟨rfl,rfl⟩,ao.peq,ak (by omega)];by_cases he:a[k]=b[k]
   ·simp[he,cY]
   ·simp[he,cY]
  ·unfold fH;dsimp only;rw[if_neg (by simp)]
  ·exact(mT a b h (some (PV.bool false)) (some (PV.bool true))).trans F3
 ·rw[if_pos (by rw[oi];simp[h])];have:a≠b:=fun e=>h (by rw[e]);simp[this]
theorem F4(a b:List ao)(ha:a.length≤maxLen):fR [.rs 5 (a.map ao.pv),.rs 5 (b.map ao.pv)]=some (.bool (decide (a=b))):=by
 have hm:=aT;simp only[fR,nJ,ab,if_true,U,List.length_map];by_cases h:a.length=b.length
 ·rw[if_neg (by rw[oi];simp[h])];refine(aY (fun k=>(a.map ao.pv,b.map ao.pv,(k:Int),())) a.length (fun k=>if a[k]?=b[k]? then none else some (some (PV.bool false))) (fun k hk rec=>?_) (fin:=some (PV.bool true)) (fun rec=>?_) (by have:=aP;omega) rfl).trans ?_
  ·have h1:decide ((k:Int)<(a.length:Int))=true:=by simp;omega
   have jK:k<b.length:=by omega
   unfold kD;dsimp only;try rw[List.length_map]
   rw[if_pos h1,aq,aq,List.getElem?_map,List.getElem?_map,List.getElem?_eq_getElem hk,List.getElem?_eq_getElem jK];simp only[Option.map_some,U];rw[if_pos ⟨rfl,rfl⟩,ao.peq,ak (by omega)];by_cases he:a[k]=b[k]
   ·simp[he,cY]
   ·simp[he,cY]
  ·unfold kD;dsimp only;rw[if_neg (by simp)]
  ·exact(mT a b h (some (PV.bool false)) (some (PV.bool true))).trans F3
 ·rw[if_pos (by rw[oi];simp[h])];have:a≠b:=fun e=>h (by rw[e]);simp[this]
def uP(l:List aS)(d w c:Int):PV:=.agg [.rs 6 (l.map aS.pv),.int .i64 d,.int .i64 w,.int .i64 c]
theorem oq(a b:List aS)(d1 w1 c1 d2 w2 c2:Int)(ha:a.length≤maxLen):fS [uP a d1 w1 c1,uP b d2 w2 c2]=some (.bool (decide (d1=d2)&&decide (w1=w2)&&decide (c1=c2)&&decide (a=b))):=by
 have hm:=aT;have f0:∀l d w c,asAgg 4 (uP l d w c)=some ():=fun _ _ _ _=>rfl;have f1:∀l d w c,cell (uP l d w c) 0=.rs 6 (l.map aS.pv):=fun _ _ _ _=>rfl;have f2:∀l d w c,cell (uP l d w c) 1=.int .i64 d:=fun _ _ _ _=>rfl;have f3:∀l d w c,cell (uP l d w c) 2=.int .i64 w:=fun _ _ _ _=>rfl;have f4:∀l d w c,cell (uP l d w c) 3=.int .i64 c:=fun _ _ _ _=>rfl;simp only[fS,nL,f0,f1,f2,f3,f4,ab,asInt,if_true,U,List.length_map,oi,jy,aW];by_cases h:a.length=b.length
 ·by_cases e1:d1=d2
  ·by_cases e2:w1=w2
   ·by_cases e3:c1=c2
    ·rw[if_neg (by simp[h,e1,e2,e3])];simp only[e1,e2,e3,decide_true,Bool.true_and];refine(aY (fun k=>((k:Int),a.map aS.pv,d2,w2,c2,b.map aS.pv,d2,w2,c2,())) a.length (fun k=>if a[k]?=b[k]? then none else some (some (PV.bool false))) (fun k hk rec=>?_) (fin:=some (PV.bool true)) (fun rec=>?_) (by have:=aP;omega) rfl).trans ?_
     ·have h1:decide ((k:Int)<(a.length:Int))=true:=by simp;omega
      have jK:k<b.length:=by omega
      unfold kE;dsimp only;try rw[List.length_map]
      rw[if_pos h1,aq,aq,List.getElem?_map,List.getElem?_map,List.getElem?_eq_getElem hk,List.getElem?_eq_getElem jK];simp only[Option.map_some,U];rw[if_pos ⟨rfl,rfl⟩,aS.peq,ak (by omega)];by_cases he:a[k]=b[k]
      ·simp[he,cY]
      ·simp[he,cY]
     ·unfold kE;dsimp only;rw[if_neg (by simp)]
     ·exact(mT a b h (some (PV.bool false)) (some (PV.bool true))).trans F3
    ·rw[if_pos (by simp[e3])];simp[e3]
   ·rw[if_pos (by simp[e2])];simp[e2]
  ·rw[if_pos (by simp[e1])];simp[e1]
 ·rw[if_pos (by
   have h':¬((a.length:Int)=(b.length:Int)):=by omega
   simp[h'])]
  have:a≠b:=fun e=>h (by rw[e]);simp[this]
theorem OD(x y:bq):decide (x=y)=(decide (x.cX=y.cX)&&decide (x.day=y.day)&&decide (x.inst=y.inst)&&decide (x.id=y.id)&&decide (x.bd=y.bd)&&decide (x.free=y.free)&&decide (x.rj=y.rj)&&decide (x.calls=y.calls)):=by cases x;cases y;rw[Bool.eq_iff_iff];simp[and_assoc]
theorem qD(a b:List bq)(ha:a.length≤maxLen)(hc:∀x∈a,x.calls.length≤maxLen):gv [.rs 8 (a.map bq.pv),.rs 8 (b.map bq.pv)]=some (.bool (decide (a=b))):=by
 have hm:=aT;simp only[gv,pC,ab,if_true,U,List.length_map];by_cases h:a.length=b.length
 ·rw[if_neg (by rw[oi];simp[h])];refine(aY (fun k=>(a.map bq.pv,b.map bq.pv,(k:Int),())) a.length (fun k=>if a[k]?=b[k]? then none else some (some (PV.bool false))) (fun k hk rec=>?_) (fin:=some (PV.bool true)) (fun rec=>?_) (by have:=aP;omega) rfl).trans ?_
  ·have h1:decide ((k:Int)<(a.length:Int))=true:=by simp;omega
   have jK:k<b.length:=by omega
   have eS:=F4 a[k].calls b[k].calls (hc _ (List.getElem_mem hk));unfold lP;dsimp only;rw[List.length_map,if_pos h1,aq,aq,List.getElem?_map,List.getElem?_map,List.getElem?_eq_getElem hk,List.getElem?_eq_getElem jK];simp only[Option.map_some,U,Wb,LN,LO,LP,Wc,ZC,ZD,AQ,asInt,bh,asBool,ab,if_true,eS,aW,jy,dU,ak (show k<9223372036854775807 by omega)];have hd:=OD a[k] b[k];by_cases he:a[k]=b[k]
   ·simp[he,cY]
   ·rw[if_pos,if_neg (by simpa using he)]
    ·rfl
    ·rw[decide_eq_false he]at hd;revert hd;generalize decide (a[k].cX=b[k].cX)=x1;generalize decide (a[k].day=b[k].day)=x2;generalize decide (a[k].inst=b[k].inst)=x3;generalize decide (a[k].id=b[k].id)=x4;generalize decide (a[k].bd=b[k].bd)=x5;generalize decide (a[k].free=b[k].free)=x6;generalize decide (a[k].rj=b[k].rj)=x7;generalize decide (a[k].calls=b[k].calls)=x8;revert x1 x2 x3 x4 x5 x6 x7 x8;decide
  ·unfold lP;dsimp only;rw[if_neg (by simp)]
  ·exact(mT a b h (some (PV.bool false)) (some (PV.bool true))).trans F3
 ·rw[if_pos (by rw[oi];simp[h])];have:a≠b:=fun e=>h (by rw[e]);simp[this]
def eqN(A B:ag):Bool:=decide (A.stops=B.stops)&&decide (A.af=B.af)&&decide (A.ah=B.ah)&&decide (A.paths=B.paths)&&decide (A.runs=B.runs)&&(decide (A.aR=B.aR)&&decide (A.within=B.within)&&decide (A.cap=B.cap)&&decide (A.au=B.au))
theorem Ts(A:ag):eqN A A=true:=by simp[eqN]
def L7(A B:ag):Bool:=decide (A.runs=B.runs)&&(decide (A.aR=B.aR)&&decide (A.within=B.within)&&decide (A.cap=B.cap)&&decide (A.au=B.au))
theorem Qn(A B:ag)(hA:A.Ok)(h:A.paths.length=B.paths.length):bI.run (gw) (0,A.stops.map Stop.pv,A.af.map ax.pv,A.runs.map bq.pv,A.ah.map aC.pv,A.paths.map Path.pv,A.au.map aS.pv,A.aR,A.within,A.cap,B.stops.map Stop.pv,B.af.map ax.pv,B.runs.map bq.pv,B.ah.map aC.pv,B.paths.map Path.pv,B.au.map aS.pv,B.aR,B.within,B.cap,())=if A.paths=B.paths then some (.bool (L7 A B))else some (.bool false):=by
 have hm:=aT;have hl:=hA.paths.1;have e1:=qD A.runs B.runs hA.runs.1 (fun x hx=>(hA.runs.2 x hx).calls.1);have e2:=oq A.au B.au A.aR A.within A.cap B.aR B.within B.cap hA.au.1;unfold uP at e2;generalize ub:(some (.bool (L7 A B)):Option PV)=fin;generalize ha:A.paths=a at h hl⊢;generalize hb:B.paths=b at h⊢;refine(aY (fun k=>((k:Int),A.stops.map Stop.pv,A.af.map ax.pv,A.runs.map bq.pv,A.ah.map aC.pv,a.map Path.pv,A.au.map aS.pv,A.aR,A.within,A.cap,B.stops.map Stop.pv,B.af.map ax.pv,B.runs.map bq.pv,B.ah.map aC.pv,b.map Path.pv,B.au.map aS.pv,B.aR,B.within,B.cap,())) a.length (fun k=>if a[k]?=b[k]? then none else some (some (PV.bool false))) (fun k hk rec=>?_) (fin:=fin) (fun rec=>?_) (by have:=aP;omega) rfl).trans ?_
 ·have h1:decide ((k:Int)<(a.length:Int))=true:=by simp;omega
  have jK:k<b.length:=by omega
  unfold gw;dsimp only;try rw[List.length_map]
  rw[if_pos h1,aq,aq,List.getElem?_map,List.getElem?_map,List.getElem?_eq_getElem hk,List.getElem?_eq_getElem jK];simp only[Option.map_some,U];rw[if_pos ⟨rfl,rfl⟩,Path.peq,ak (by omega)];by_cases he:a[k]=b[k]
  ·simp[he,cY]
  ·simp[he,cY]
 ·subst ha;subst hb;rw[←ub];unfold gw;dsimp only;rw[if_neg (by simp)];simp only[e1,e2,U,asBool,cT];rfl
 ·exact mT a b h _ _
theorem Qo(A B:ag)(hA:A.Ok)(h:A.ah.length=B.ah.length):bI.run (gx bI) (0,A.stops.map Stop.pv,A.af.map ax.pv,A.runs.map bq.pv,A.ah.map aC.pv,A.paths.map Path.pv,A.au.map aS.pv,A.aR,A.within,A.cap,B.stops.map Stop.pv,B.af.map ax.pv,B.runs.map bq.pv,B.ah.map aC.pv,B.paths.map Path.pv,B.au.map aS.pv,B.aR,B.within,B.cap,())=if A.ah=B.ah then bI.run (gw) (0,A.stops.map Stop.pv,A.af.map ax.pv,A.runs.map bq.pv,A.ah.map aC.pv,A.paths.map Path.pv,A.au.map aS.pv,A.aR,A.within,A.cap,B.stops.map Stop.pv,B.af.map ax.pv,B.runs.map bq.pv,B.ah.map aC.pv,B.paths.map Path.pv,B.au.map aS.pv,B.aR,B.within,B.cap,())else some (.bool false):=by
 have hm:=aT;have hl:=hA.ah.1;have e1:=qD A.runs B.runs hA.runs.1 (fun x hx=>(hA.runs.2 x hx).calls.1);have e2:=oq A.au B.au A.aR A.within A.cap B.aR B.within B.cap hA.au.1;unfold uP at e2;generalize ub:(bI.run (gw) (0,A.stops.map Stop.pv,A.af.map ax.pv,A.runs.map bq.pv,A.ah.map aC.pv,A.paths.map Path.pv,A.au.map aS.pv,A.aR,A.within,A.cap,B.stops.map Stop.pv,B.af.map ax.pv,B.runs.map bq.pv,B.ah.map aC.pv,B.paths.map Path.pv,B.au.map aS.pv,B.aR,B.within,B.cap,()):Option PV)=fin;generalize ha:A.ah=a at h hl⊢;generalize hb:B.ah=b at h⊢;refine(aY (fun k=>((k:Int),A.stops.map Stop.pv,A.af.map ax.pv,A.runs.map bq.pv,a.map aC.pv,A.paths.map Path.pv,A.au.map aS.pv,A.aR,A.within,A.cap,B.stops.map Stop.pv,B.af.map ax.pv,B.runs.map bq.pv,b.map aC.pv,B.paths.map Path.pv,B.au.map aS.pv,B.aR,B.within,B.cap,())) a.length (fun k=>if a[k]?=b[k]? then none else some (some (PV.bool false))) (fun k hk rec=>?_) (fin:=fin) (fun rec=>?_) (by have:=aP;omega) rfl).trans ?_
 ·have h1:decide ((k:Int)<(a.length:Int))=true:=by simp;omega
  have jK:k<b.length:=by omega
  unfold gx;dsimp only;try rw[List.length_map]
  rw[if_pos h1,aq,aq,List.getElem?_map,List.getElem?_map,List.getElem?_eq_getElem hk,List.getElem?_eq_getElem jK];simp only[Option.map_some,U];rw[if_pos ⟨rfl,rfl⟩,aC.peq,ak (by omega)];by_cases he:a[k]=b[k]
  ·simp[he,cY]
  ·simp[he,cY]
 ·subst ha;subst hb;rw[←ub];unfold gx;dsimp only;rw[if_neg (by simp)]
 ·exact mT a b h _ _
theorem Qp(A B:ag)(hA:A.Ok)(h:A.af.length=B.af.length):bI.run (gy bI) (0,A.stops.map Stop.pv,A.af.map ax.pv,A.runs.map bq.pv,A.ah.map aC.pv,A.paths.map Path.pv,A.au.map aS.pv,A.aR,A.within,A.cap,B.stops.map Stop.pv,B.af.map ax.pv,B.runs.map bq.pv,B.ah.map aC.pv,B.paths.map Path.pv,B.au.map aS.pv,B.aR,B.within,B.cap,())=if A.af=B.af then bI.run (gx bI) (0,A.stops.map Stop.pv,A.af.map ax.pv,A.runs.map bq.pv,A.ah.map aC.pv,A.paths.map Path.pv,A.au.map aS.pv,A.aR,A.within,A.cap,B.stops.map Stop.pv,B.af.map ax.pv,B.runs.map bq.pv,B.ah.map aC.pv,B.paths.map Path.pv,B.au.map aS.pv,B.aR,B.within,B.cap,())else some (.bool false):=by
 have hm:=aT;have hl:=hA.af.1;have e1:=qD A.runs B.runs hA.runs.1 (fun x hx=>(hA.runs.2 x hx).calls.1);have e2:=oq A.au B.au A.aR A.within A.cap B.aR B.within B.cap hA.au.1;unfold uP at e2;generalize ub:(bI.run (gx bI) (0,A.stops.map Stop.pv,A.af.map ax.pv,A.runs.map bq.pv,A.ah.map aC.pv,A.paths.map Path.pv,A.au.map aS.pv,A.aR,A.within,A.cap,B.stops.map Stop.pv,B.af.map ax.pv,B.runs.map bq.pv,B.ah.map aC.pv,B.paths.map Path.pv,B.au.map aS.pv,B.aR,B.within,B.cap,()):Option PV)=fin;generalize ha:A.af=a at h hl⊢;generalize hb:B.af=b at h⊢;refine(aY (fun k=>((k:Int),A.stops.map Stop.pv,a.map ax.pv,A.runs.map bq.pv,A.ah.map aC.pv,A.paths.map Path.pv,A.au.map aS.pv,A.aR,A.within,A.cap,B.stops.map Stop.pv,b.map ax.pv,B.runs.map bq.pv,B.ah.map aC.pv,B.paths.map Path.pv,B.au.map aS.pv,B.aR,B.within,B.cap,())) a.length (fun k=>if a[k]?=b[k]? then none else some (some (PV.bool false))) (fun k hk rec=>?_) (fin:=fin) (fun rec=>?_) (by have:=aP;omega) rfl).trans ?_
 ·have h1:decide ((k:Int)<(a.length:Int))=true:=by simp;omega
  have jK:k<b.length:=by omega
  unfold gy;dsimp only;try rw[List.length_map]
  rw[if_pos h1,aq,aq,List.getElem?_map,List.getElem?_map,List.getElem?_eq_getElem hk,List.getElem?_eq_getElem jK];simp only[Option.map_some,U];rw[if_pos ⟨rfl,rfl⟩,ax.peq,ak (by omega)];by_cases he:a[k]=b[k]
  ·simp[he,cY]
  ·simp[he,cY]
 ·subst ha;subst hb;rw[←ub];unfold gy;dsimp only;rw[if_neg (by simp)]
 ·exact mT a b h _ _
theorem Qq(A B:ag)(hA:A.Ok)(h:A.stops.length=B.stops.length):bI.run (lQ bI) (0,A.stops.map Stop.pv,A.af.map ax.pv,A.runs.map bq.pv,A.ah.map aC.pv,A.paths.map Path.pv,A.au.map aS.pv,A.aR,A.within,A.cap,B.stops.map Stop.pv,B.af.map ax.pv,B.runs.map bq.pv,B.ah.map aC.pv,B.paths.map Path.pv,B.au.map aS.pv,B.aR,B.within,B.cap,())=if A.stops=B.stops then bI.run (gy bI) (0,A.stops.map Stop.pv,A.af.map ax.pv,A.runs.map bq.pv,A.ah.map aC.pv,A.paths.map Path.pv,A.au.map aS.pv,A.aR,A.within,A.cap,B.stops.map Stop.pv,B.af.map ax.pv,B.runs.map bq.pv,B.ah.map aC.pv,B.paths.map Path.pv,B.au.map aS.pv,B.aR,B.within,B.cap,())else some (.bool false):=by
 have hm:=aT;have hl:=hA.stops.1;have e1:=qD A.runs B.runs hA.runs.1 (fun x hx=>(hA.runs.2 x hx).calls.1);have e2:=oq A.au B.au A.aR A.within A.cap B.aR B.within B.cap hA.au.1;unfold uP at e2;generalize ub:(bI.run (gy bI) (0,A.stops.map Stop.pv,A.af.map ax.pv,A.runs.map bq.pv,A.ah.map aC.pv,A.paths.map Path.pv,A.au.map aS.pv,A.aR,A.within,A.cap,B.stops.map Stop.pv,B.af.map ax.pv,B.runs.map bq.pv,B.ah.map aC.pv,B.paths.map Path.pv,B.au.map aS.pv,B.aR,B.within,B.cap,()):Option PV)=fin;generalize ha:A.stops=a at h hl⊢;generalize hb:B.stops=b at h⊢;refine(aY (fun k=>((k:Int),a.map Stop.pv,A.af.map ax.pv,A.runs.map bq.pv,A.ah.map aC.pv,A.paths.map Path.pv,A.au.map aS.pv,A.aR,A.within,A.cap,b.map Stop.pv,B.af.map ax.pv,B.runs.map bq.pv,B.ah.map aC.pv,B.paths.map Path.pv,B.au.map aS.pv,B.aR,B.within,B.cap,())) a.length (fun k=>if a[k]?=b[k]? then none else some (some (PV.bool false))) (fun k hk rec=>?_) (fin:=fin) (fun rec=>?_) (by have:=aP;omega) rfl).trans ?_
 ·have h1:decide ((k:Int)<(a.length:Int))=true:=by simp;omega
  have jK:k<b.length:=by omega
  unfold lQ;dsimp only;try rw[List.length_map]
  rw[if_pos h1,aq,aq,List.getElem?_map,List.getElem?_map,List.getElem?_eq_getElem hk,List.getElem?_eq_getElem jK];simp only[Option.map_some,U];rw[if_pos ⟨rfl,rfl⟩,Stop.peq,ak (by omega)];by_cases he:a[k]=b[k]
  ·simp[he,cY]
  ·simp[he,cY]
 ·subst ha;subst hb;rw[←ub];unfold lQ;dsimp only;rw[if_neg (by simp)]
 ·exact mT a b h _ _
theorem Qr(A B:ag)(hA:A.Ok):fj [A.pv,B.pv]=some (.bool (eqN A B)):=by
 simp only[fj,nh,mF,nW,nX,nY,nZ,oa,ob,oc,od,og,U,aW,List.length_map,oi];unfold eqN;by_cases h1:A.stops.length=B.stops.length
 ·by_cases h2:A.af.length=B.af.length
  ·by_cases h3:A.ah.length=B.ah.length
   ·by_cases h4:A.paths.length=B.paths.length
    ·rw[if_neg (by simp[h1,h2,h3,h4]),Qq A B hA h1,Qp A B hA h2,Qo A B hA h3,Qn A B hA h4];unfold L7;by_cases g1:A.stops=B.stops
     ·by_cases g2:A.af=B.af
      ·by_cases g3:A.ah=B.ah
       ·by_cases g4:A.paths=B.paths
        ·rw[if_pos g1,if_pos g2,if_pos g3,if_pos g4];simp[g1,g2,g3,g4]
        ·rw[if_pos g1,if_pos g2,if_pos g3,if_neg g4];simp[g4]
       ·rw[if_pos g1,if_pos g2,if_neg g3];simp[g3]
      ·rw[if_pos g1,if_neg g2];simp[g2]
     ·rw[if_neg g1];simp[g1]
    ·rw[if_pos (by simp[h4])];have:A.paths≠B.paths:=fun e=>h4 (by rw[e]);simp[this]
   ·rw[if_pos (by simp[h3])];have:A.ah≠B.ah:=fun e=>h3 (by rw[e]);simp[this]
  ·rw[if_pos (by simp[h2])];have:A.af≠B.af:=fun e=>h2 (by rw[e]);simp[this]
 ·rw[if_pos (by simp[h1])];have:A.stops≠B.stops:=fun e=>h1 (by rw[e]);simp[this]
end Go.Ab.Tt
namespace Go.Ab.Tt
set_option maxRecDepth 100000
set_option linter.unusedVariables false
set_option linter.unusedSimpArgs false
theorem cF(es:List PV)(n:Nat)(h:es.length≤1000)(hn:0<n)(hn2:n≤1000):(([]:List PV)++es).length*n≤aa∧0<n:=by refine⟨?_,hn⟩;rw[List.nil_append];have:es.length*n≤1000*1000:=Nat.mul_le_mul h hn2;unfold aa;omega
theorem kF(es:List PV):List.take (((([]:List PV)++es).length:Int).toNat) (([]:List PV)++es)=es:=by simp
theorem CS(es:List PV)(h:es.length≤1000):cw [.rs 4 es]=some (.rs 4 es):=by simp only[cw,kC,ab,if_true,U];rw[if_pos (cF es 40 h (by decide) (by decide)),if_pos ⟨by omega,by omega,by omega,trivial⟩,kF]
theorem Aq(es:List PV)(h:es.length≤1000):ck [.rs 3 es]=some (.rs 3 es):=by simp only[ck,jC,ab,if_true,U];rw[if_pos (cF es 32 h (by decide) (by decide)),if_pos ⟨by omega,by omega,by omega,trivial⟩,kF]
theorem EH(es:List PV)(h:es.length≤1000):cO [.rs 8 es]=some (.rs 8 es):=by simp only[cO,lA,ab,if_true,U];rw[if_pos (cF es 80 h (by decide) (by decide)),if_pos ⟨by omega,by omega,by omega,trivial⟩,kF]
theorem CT(es:List PV)(h:es.length≤1000):cy [.rs 5 es]=some (.rs 5 es):=by simp only[cy,kB,ab,if_true,U];rw[if_pos (cF es 40 h (by decide) (by decide)),if_pos ⟨by omega,by omega,by omega,trivial⟩,kF]
theorem uQ(es:List PV)(h:es.length≤1000):bH [.rs 4 es]=some (.rs 4 es):=by simp only[bH,gP,ab,if_true,U];rw[if_pos (cF es 32 h (by decide) (by decide)),if_pos ⟨by omega,by omega,by omega,trivial⟩,kF]
theorem CU(es:List PV)(h:es.length≤1000):cz [.rs 5 es]=some (.rs 5 es):=by simp only[cz,kx,ab,if_true,U];rw[if_pos (cF es 32 h (by decide) (by decide)),if_pos ⟨by omega,by omega,by omega,trivial⟩,kF]
theorem wm(es:List PV)(h:es.length≤1000):bN [.rs 6 es]=some (.rs 6 es):=by simp only[bN,iy,ab,if_true,U];rw[if_pos (cF es 56 h (by decide) (by decide)),if_pos ⟨by omega,by omega,by omega,trivial⟩,kF]
variable{A:Type}
def mix(f g:A→PV)(l:List A)(k:Nat):List PV:=(l.take k).map f++(l.drop k).map g
theorem Ie(f g:A→PV)(l:List A):mix f g l 0=l.map g:=by simp[mix]
theorem F5(f g:A→PV)(l:List A):mix f g l l.length=l.map f:=by simp[mix]
theorem OE(f g:A→PV)(l:List A)(k:Nat):(mix f g l k).length=l.length:=by simp[mix];omega
theorem OG(f g:A→PV)(l:List A)(k:Nat)(h:k<l.length):(mix f g l k)[k]?=some (g l[k]):=by unfold mix;rw[List.getElem?_append_right (by simp;omega)];simp only[List.length_map,List.length_take,Nat.min_eq_left (Nat.le_of_lt h),Nat.sub_self,List.getElem?_map,List.getElem?_drop,Nat.add_zero,List.getElem?_eq_getElem h,Option.map_some]
theorem OH(f g:A→PV)(l:List A)(k:Nat)(h:k<l.length):(mix f g l k).set k (f l[k])=mix f g l (k+1):=by
 apply List.ext_getElem?;intro j;rw[List.getElem?_set];unfold mix;by_cases hj:k=j
 ·subst hj;rw[if_pos rfl,if_pos (by simp;omega),List.getElem?_append_left (by simp;omega)];simp[h]
 ·rw[if_neg hj];by_cases bu:j<k
  ·rw[List.getElem?_append_left (by simp;omega),List.getElem?_append_left (by simp;omega)];simp[bu,Nat.lt_succ_of_lt bu]
  ·rw[List.getElem?_append_right (by simp;omega),List.getElem?_append_right (by simp;omega)];simp only[List.length_map,List.length_take,List.getElem?_map,List.getElem?_drop];congr 2;omega
theorem ek(f g:A→PV)(l:List A)(k:Nat)(h:k<l.length)(p:PV):((mix f g l k).set k p)[k]?=some p:=by rw[List.getElem?_set,if_pos rfl,if_pos (by rw[OE];exact h)]
theorem F6(f g:A→PV)(l:List A)(k:Nat)(h:k<l.length):ae (k:Int) (mix f g l k).length:=by rw[OE];exact⟨by omega,by omega⟩
def bq.mW(x:bq):PV:=.agg [.int .i64 x.cX,.int .i64 x.day,.int .i64 x.inst,.str x.id,.int .i64 x.bd,.bool x.free,.bool x.rj,.cK 5 (x.calls.map ao.pv)]
theorem gR(l:List bq):(l.map bq.mW).map PV.strip=l.map bq.pv:=by rw[List.map_map];rfl
end Go.Ab.Tt
