import Derived.Test.YtcmhmlnkhmefbaaNkP1
import Derived.Test.YtcmhmlnkhmefbaaNwP2
namespace Go.Ab.Tt
set_option maxRecDepth 100000
set_option linter.unusedVariables false
set_option linter.unusedSimpArgs false
def c7(x:Path):Int×Int×Bool:=(x.a,x.b,x.free)
def vW(x:Int×Int×Bool):PV:=.agg [.int .i64 x.1,.int .i64 x.2.1,.bool x.2.2]
theorem Eo(a b:Int×Int×Bool):cA (vW a).cells (vW b).cells=decide (a=b):=by obtain⟨a1,a2,a3⟩:=a;obtain⟨b1,b2,b3⟩:=b;rw[Bool.eq_iff_iff];simp[vW,PV.cells,cA,peq]
def fi(l:List Path)(n:Int)(k:Nat):Int:=match l[k]? with
 |none=>0
 |some x=>if(decide (x.a<0)||decide (x.a≥n)||decide (x.b<0)||decide (x.b≥n)||decide (x.a=x.b))=true then 9 else if(decide (x.bP<1)||decide (x.bP>14400))=true then 2 else if c7 x∈(l.map c7).take k then 6 else 0
theorem Hf(l:List Path)(n:Int)(hl:l.length≤maxLen):ef [.rs 4 (l.map Path.pv),.int .i64 n]=some (res (dI (fi l n) l.length).1 (dI (fi l n) l.length).2):=by
 have hm:=c8;simp only[ef,mU,ae,asInt,if_true,U,List.length_map];rw[←ry];refine cG (fun k=>(n,l.map Path.pv,(l.length:Int),(k:Int),seen vW ((l.map c7).take k),())) l.length _ (fun k hk rec=>?_) (fun rec=>?_) ?_ rfl
 ·have h1:(k:Int)<(l.length:Int):=by omega
  have oc:eA (.agg [.int .i64 l[k].a,.int .i64 l[k].b,.bool l[k].free]) (.bool true) (seen vW ((l.map c7).take k))=_:=lv Eo (c7 l[k]) ((l.map c7).take k);have o9:dB (.agg [.int .i64 l[k].a,.int .i64 l[k].b,.bool l[k].free]) (.bool false) (seen vW ((l.map c7).take k))=_:=jD Eo (c7 l[k]) ((l.map c7).take k);simp only[j9,decide_eq_true_eq,h1,if_true,aV,List.getElem?_map,List.getElem?_eq_getElem hk,Option.map_some,U,N0,N1,N2,N3,asInt,asBool,oc,o9,j6,aI (show k<9223372036854775807 by omega),mY c7 l k hk];unfold fi;rw[List.getElem?_eq_getElem hk];simp only;by_cases cQ:c7 l[k]∈(l.map c7).take k
  ·simp only[cQ,if_true];by_cases e1:l[k].a<0<;>by_cases e2:l[k].a≥n<;>by_cases e3:l[k].b<0<;>by_cases e4:l[k].b≥n<;>by_cases e5:l[k].a=l[k].b<;>by_cases e6:l[k].bP<1<;>by_cases e7:l[k].bP>14400<;>simp only[e1,e2,e3,e4,e5,e6,e7,decide_true,decide_false,Bool.or_true,Bool.true_or,Bool.or_false,if_true,if_false,Bool.false_eq_true]<;>rfl
  ·simp only[cQ,if_false,Bool.false_eq_true];by_cases e1:l[k].a<0<;>by_cases e2:l[k].a≥n<;>by_cases e3:l[k].b<0<;>by_cases e4:l[k].b≥n<;>by_cases e5:l[k].a=l[k].b<;>by_cases e6:l[k].bP<1<;>by_cases e7:l[k].bP>14400<;>simp only[e1,e2,e3,e4,e5,e6,e7,decide_true,decide_false,Bool.or_true,Bool.true_or,Bool.or_false,if_true,if_false,Bool.false_eq_true]<;>rfl
 ·simp only[j9,decide_eq_true_eq,Int.lt_irrefl,if_false];rfl
 ·have:=c9;omega
def toFp(p:Path):Nw.Fp:=⟨p.a.toNat,p.b.toNat,p.bP.toNat,p.free⟩
def Sound(l:List Path)(n:Nat):Prop:=∀p∈l,0≤p.a∧p.a<n∧0≤p.b∧p.b<n∧1≤p.bP∧p.bP≤14400
variable{l:List Path}{n:Nat}
theorem N4(h:(dI (fi l n) l.length).2=0):Sound l n:=by
 intro p hp;obtain⟨k,hk,rfl⟩:=List.getElem_of_mem hp;have h0:=(kO _ _).1 h k hk;unfold fi at h0;rw[List.getElem?_eq_getElem hk]at h0;simp only at h0;by_cases c1:(decide (l[k].a<0)||decide (l[k].a≥n)||decide (l[k].b<0)||decide (l[k].b≥n)||decide (l[k].a=l[k].b))=true
 ·rw[if_pos c1]at h0;omega
 ·rw[if_neg c1]at h0;by_cases c2:(decide (l[k].bP<1)||decide (l[k].bP>14400))=true
  ·rw[if_pos c2]at h0;omega
  ·simp only[Bool.or_eq_true,decide_eq_true_eq]at c1 c2;omega
theorem toFp_pv{p:Path}(h1:0≤p.a)(h2:0≤p.b)(h3:1≤p.bP):(toFp p).pv=p.pv:=by simp only[toFp,Nw.Fp.pv,Path.pv];rw[Int.toNat_of_nonneg h1,Int.toNat_of_nonneg h2,Int.toNat_of_nonneg (by omega)]
theorem N5(h:Sound l n):(l.map toFp).map Nw.Fp.pv=l.map Path.pv:=by rw[List.map_map];apply List.map_congr_left;intro p hp;exact toFp_pv (h p hp).1 (h p hp).2.2.1 (h p hp).2.2.2.2.1
def Jw(e:List PV):Path:=match e with|[.int .i64 a,.int .i64 b,.int .i64 s,.bool f]=>⟨a,b,s,f⟩|_=>⟨0,0,0,false⟩
theorem zD:∀(L:List (List PV)),(∀e∈L,Nw.IsF e)→ez L=(L.map Jw).map Path.pv
 |[],_=>rfl
 |e::L,h=>by obtain⟨i,k,s,b,rfl⟩:=h e (by simp);have:=zD L fun x hx=>h x (by simp[hx]);unfold ez at this⊢;rw[List.map_cons,List.map_cons,List.map_cons,this];rfl
def na(l:List Path)(n:Nat):List Path:=(Nw.CN n (Nw.sA n (l.map toFp) false) (Nw.sA n (l.map toFp) true)).map Jw
theorem K7(hn:n≤64)(hl:l.length≤4096)(h:Sound l n):cE [.rs 4 (l.map Path.pv),.int .i64 n]=some (.rs 4 ((na l n).map Path.pv)):=by have:=Nw.Hg (l.map toFp) n hn (by simpa using hl) (fun p hp=>by obtain⟨q,hq,rfl⟩:=List.mem_map.1 hp;have:=h q hq;simp only[toFp];omega);rw[N5 h,zD _ (Nw.Ep n _ _)]at this;exact this
theorem N6(l:List Path)(n:Nat)(hn:n≤64):(na l n).length≤8192:=by
 have h1:(na l n).length=(ez (Nw.CN n (Nw.sA n (l.map toFp) false) (Nw.sA n (l.map toFp) true))).length:=by simp[na,ez]
 rw[h1,Nw.BB];have h2:=Nw.zF (it:=fun i k=>Nw.QF (Nw.sA n (l.map toFp) false i k) (Nw.sA n (l.map toFp) true i k) i k) (fun i k=>Nw.QG _ _ i k) n n;have h3:2*n*n≤2*64*64:=Nat.mul_le_mul (Nat.mul_le_mul_left 2 hn) hn;omega
theorem N7(x y:Path):cA [cell x.pv 0,cell x.pv 1,cell x.pv 2,cell x.pv 3] [cell y.pv 0,cell y.pv 1,cell y.pv 2,cell y.pv 3]=decide (x=y):=by rw[Bool.eq_iff_iff];obtain⟨a,b,c,d⟩:=x;obtain⟨a',b',c',d'⟩:=y;simp[N0,N1,N2,N3,cA,peq]
theorem Er(x:Path):iK (Kd.int IntKind.i64::[].append (Kd.int IntKind.i64::[].append (Kd.int IntKind.i64::[].append (Kd.bool::[].append [])))) [cell x.pv 0,cell x.pv 1,cell x.pv 2,cell x.pv 3]=true:=rfl
def pK(l:List Path)(n:Nat):Bool:=decide (na l n=l)
theorem Es(hn:n≤64)(hl:l.length≤4096)(h:(dI (fi l n) l.length).2=0):cY [.rs 4 (l.map Path.pv),.int .i64 n]=some (.bool (pK l n)):=by
 have hm:4096≤maxLen:=by decide
 have hs:=Hf l n (by omega);have hf:=K8 _ _ h;rw[h,hf]at hs;have hc:=K7 hn hl (N4 h);have py:=N6 l n hn;have As:¬decide ((n:Int)>64)=true:=by simp;omega
 have h0:¬(0:Int)>(n:Int):=by omega
 simp only[cY,j5,ae,asInt,if_true,U];rw[if_neg As,hs];simp only[res,cB,List.length_cons,List.length_nil,Nat.reduceAdd,if_true,U,List.getD_cons_zero,List.getD_cons_succ,asInt,if_neg h0,hc,ae,List.length_map];rw[if_neg (by decide)];unfold pK;by_cases hlen:(na l n).length=l.length
 ·rw[if_neg (by simp[sV,hlen])];have hr:=xN (na l n) l hlen (some (PV.bool false)) (some (PV.bool true));have:some (PV.bool (decide (na l n=l)))=if na l n=l then some (PV.bool true)else some (PV.bool false):=by by_cases hc:na l n=l<;>simp[hc]
  rw[this,←hr];refine cG (fun k=>(l.map Path.pv,(na l n).map Path.pv,((na l n).length:Int),(k:Int),())) (na l n).length _ (fun k hk rec=>?_) (fun rec=>?_) ?_ rfl
  ·have h1:decide ((k:Int)<((na l n).length:Int))=true:=by simp;omega
   have sx:k<l.length:=by omega
   unfold gZ;dsimp only;rw[if_pos h1,aV,List.getElem?_map,List.getElem?_eq_getElem hk,aV,List.getElem?_map,List.getElem?_eq_getElem sx];simp only[Option.map_some,U];rw[if_pos ⟨Er _,Er _⟩,N7,aI (by omega)];by_cases he:(na l n)[k]=l[k]
   ·simp[he,eP]
   ·simp[he,eP]
  ·unfold gZ;dsimp only;rw[if_neg (by simp)]
  ·have:=c9;omega
 ·rw[if_pos (by simp[sV];omega)];rw[decide_eq_false (fun hc=>hlen (by rw[hc]))]
def lx(l:List Path)(n:Nat):Int×Int:=if(dI (fi l n) l.length).2=0 then(if pK l n=true then(0,0)else(0,18))else dI (fi l n) l.length
def oD(x:Int×Int×Bool):PV:=.agg [.int .i64 x.1,.int .i64 x.2.1,.int .i64 0,.bool x.2.2]
theorem WN(a b:Int×Int×Bool):cA (oD a).cells (oD b).cells=decide (a=b):=by obtain⟨a1,a2,a3⟩:=a;obtain⟨b1,b2,b3⟩:=b;rw[Bool.eq_iff_iff];simp[oD,PV.cells,cA,peq]
theorem w9(N:aj)(l:List Path)(n:Nat)(hl:l.length≤4096)(hlen:(N.stops.map Stop.pv).length=n)(k:Nat)(hk:k<l.length)(rec:K9→Option PV):cv (l.map Path.pv,(l.length:Int),(k:Int),N.stops.map Stop.pv,N.ao.map aW.pv,N.runs.map cz.pv,N.aJ.map aM.pv,l.map Path.pv,N.aU.map bX.pv,N.cM,N.within,N.cap,0,0,0,seen oD ((l.map c7).take k),()) rec=eP (if fi l n k=0 then none else some (some (r3 4 k (fi l n k)))) (rec (l.map Path.pv,(l.length:Int),((k+1:Nat):Int),N.stops.map Stop.pv,N.ao.map aW.pv,N.runs.map cz.pv,N.aJ.map aM.pv,l.map Path.pv,N.aU.map bX.pv,N.cM,N.within,N.cap,0,0,0,seen oD ((l.map c7).take (k+1)),())):=by
 have h1:decide ((k:Int)<(l.length:Int))=true:=by simp;omega
 have oc:eA (.agg [.int .i64 l[k].a,.int .i64 l[k].b,.int .i64 0,.bool l[k].free]) (.bool true) (seen oD ((l.map c7).take k))=_:=lv WN (c7 l[k]) ((l.map c7).take k);have o9:dB (.agg [.int .i64 l[k].a,.int .i64 l[k].b,.int .i64 0,.bool l[k].free]) (.bool false) (seen oD ((l.map c7).take k))=_:=jD WN (c7 l[k]) ((l.map c7).take k);unfold cv;dsimp only;rw[if_pos h1,aV,List.getElem?_map,List.getElem?_eq_getElem hk,hlen];simp only[Option.map_some,U,N0,N1,N2,N3,asInt,asBool,if_true,tB,cC,j6,oc,o9,zC,Jv,zB,va,CM,mY c7 l k hk,aI (show k<9223372036854775807 by omega)];have hA:(!(decide (l[k].a≥0)&&decide (l[k].a<(n:Int)))|| !(decide (l[k].b≥0)&&decide (l[k].b<(n:Int)))||decide (l[k].a=l[k].b))=(decide (l[k].a<0)||decide (l[k].a≥(n:Int))||decide (l[k].b<0)||decide (l[k].b≥(n:Int))||decide (l[k].a=l[k].b)):=by rw[Bool.eq_iff_iff];simp only[Bool.or_eq_true,Bool.not_eq_true',Bool.and_eq_false_iff,decide_eq_true_eq,decide_eq_false_iff_not];omega
 rw[hA];unfold fi;rw[List.getElem?_eq_getElem hk];simp only;generalize (decide (l[k].a<0)||decide (l[k].a≥(n:Int))||decide (l[k].b<0)||decide (l[k].b≥(n:Int))||decide (l[k].a=l[k].b))=A;generalize (decide (l[k].bP<1)||decide (l[k].bP>14400))=B;by_cases cQ:c7 l[k]∈(l.map c7).take k
 ·simp only[cQ,if_true];cases A<;>cases B<;>rfl
 ·simp only[cQ,if_false];cases A<;>cases B<;>rfl
theorem AD(N:aj)(hn:N.stops.length≤64)(hl:N.paths.length≤4096):bl [N.pv]=some (prt 4 (lx N.paths N.stops.length)):=by
 have hm:4096≤maxLen:=by decide
 simp only[bl,jh,uF,vN,vO,vP,vQ,vR,vS,vT,vU,vV,U,List.length_map];generalize Mv:N.paths=l at hl⊢;generalize MF:N.stops.length=n at hn⊢;have hlen:(N.stops.map Stop.pv).length=n:=by simpa using MF
 have hg:=pa (fi l n) l.length (fun i e=>r3 4 i e) (some (if pK l n=true then r3 0 0 0 else r3 4 0 18));have hR:some (prt 4 (lx l n))=if(dI (fi l n) l.length).2=0 then some (if pK l n=true then r3 0 0 0 else r3 4 0 18)else some (r3 4 (dI (fi l n) l.length).1 (dI (fi l n) l.length).2):=by
  unfold lx prt;by_cases h:(dI (fi l n) l.length).2=0
  ·rw[if_pos h,if_pos h];cases pK l n<;>rfl
  ·rw[if_neg h,if_neg h,if_neg h]
 rw[hR,←hg];by_cases hz:(dI (fi l n) l.length).2=0
 ·refine cG (fun k=>(l.map Path.pv,(l.length:Int),(k:Int),N.stops.map Stop.pv,N.ao.map aW.pv,N.runs.map cz.pv,N.aJ.map aM.pv,l.map Path.pv,N.aU.map bX.pv,N.cM,N.within,N.cap,0,0,0,seen oD ((l.map c7).take k),())) l.length _ (fun k hk rec=>w9 N l n hl hlen k hk rec) (fun rec=>?_) ?_ rfl
  ·unfold cv;dsimp only;rw[if_neg (by simp),hlen,Es hn hl hz];simp only[U,asBool,zC,Jv,zB,va,CM];cases pK l n<;>rfl
  ·have:=c9;omega
 ·have sJ:=cG (body:=cv) (fun k=>(l.map Path.pv,(l.length:Int),(k:Int),N.stops.map Stop.pv,N.ao.map aW.pv,N.runs.map cz.pv,N.aJ.map aM.pv,l.map Path.pv,N.aU.map bX.pv,N.cM,N.within,N.cap,0,0,0,seen oD ((l.map c7).take k),())) l.length _ (fin:=cv (l.map Path.pv,(l.length:Int),(l.length:Int),N.stops.map Stop.pv,N.ao.map aW.pv,N.runs.map cz.pv,N.aJ.map aM.pv,l.map Path.pv,N.aU.map bX.pv,N.cM,N.within,N.cap,0,0,0,seen oD ((l.map c7).take l.length),()) fun _=>none) (fun k hk rec=>w9 N l n hl hlen k hk rec) (fun rec=>?_) (by have:=c9;omega) (s0:=(l.map Path.pv,(l.length:Int),0,N.stops.map Stop.pv,N.ao.map aW.pv,N.runs.map cz.pv,N.aJ.map aM.pv,l.map Path.pv,N.aU.map bX.pv,N.cM,N.within,N.cap,0,0,0,[],())) rfl
  ·rw[sJ,pa,pa,if_neg hz,if_neg hz]
  ·unfold cv;dsimp only;rw[if_neg (by simp),if_neg (by simp)]
end Go.Ab.Tt
namespace Go.Ab.Tt
set_option maxRecDepth 100000
set_option linter.unusedVariables false
set_option linter.unusedSimpArgs false
end Go.Ab.Tt
namespace Go.Ab.Tt
set_option maxRecDepth 100000
set_option linter.unusedVariables false
set_option linter.unusedSimpArgs false
def bQ(x:cz):Bytes×Int×Int:=(x.id,x.day,x.inst)
def Et(x:Bytes×Int×Int):PV:=.agg [.str x.1,.int .i64 x.2.1,.int .i64 x.2.2]
theorem N8(a b:Bytes×Int×Int):cA (Et a).cells (Et b).cells=decide (a=b):=by obtain⟨a1,a2,a3⟩:=a;obtain⟨b1,b2,b3⟩:=b;rw[Bool.eq_iff_iff];simp[Et,PV.cells,cA,peq]
def kc(l:List cz)(stops ao:Int)(k:Nat):Int:=match l[k]? with
 |none=>0
 |some x=>if gg x.id=false then 12 else if(decide (x.dA< -1)||decide (x.inst<0))=true then 2 else if(decide (x.day<0)||decide (x.day>36524))=true then 11 else if(decide (x.bd<0)||decide (x.bd≥ao))=true then 9 else if(bx x.calls stops 0 3155932800).2=0 then(if bQ x∈(l.map bQ).take k then 6 else 0)else(bx x.calls stops 0 3155932800).2
def gh(l:List cz)(stops ao:Int):Int×Int:=if l.length>1024 then(0,5)else dI (kc l stops ao) l.length
theorem Hh(N:aj)(l:List cz)(hl:l.length≤maxLen∧∀y∈l,y.Ok)(k:Nat)(hk:k<l.length)(rec:K9→Option PV):fj (l.map cz.pv,(l.length:Int),(k:Int),N.stops.map Stop.pv,N.ao.map aW.pv,l.map cz.pv,N.aJ.map aM.pv,N.paths.map Path.pv,N.aU.map bX.pv,N.cM,N.within,N.cap,0,0,0,seen Et ((l.map bQ).take k),()) rec=eP (if kc l N.stops.length N.ao.length k=0 then none else some (some (r3 2 k (kc l N.stops.length N.ao.length k)))) (rec (l.map cz.pv,(l.length:Int),((k+1:Nat):Int),N.stops.map Stop.pv,N.ao.map aW.pv,l.map cz.pv,N.aJ.map aM.pv,N.paths.map Path.pv,N.aU.map bX.pv,N.cM,N.within,N.cap,0,0,0,seen Et ((l.map bQ).take (k+1)),())):=by
 have hm:=c8;have h1:decide ((k:Int)<(l.length:Int))=true:=by simp;omega
 have hO:=hl.2 _ (List.getElem_mem hk);have hid:=ru l[k].id hO.id;have gI:=me l[k].calls N.stops.length 0 3155932800 hO.calls.1;simp only[res]at gI;have oc:eA (.agg [.str l[k].id,.int .i64 l[k].day,.int .i64 l[k].inst]) (.bool true) (seen Et ((l.map bQ).take k))=_:=lv N8 (bQ l[k]) ((l.map bQ).take k);have o9:dB (.agg [.str l[k].id,.int .i64 l[k].day,.int .i64 l[k].inst]) (.bool false) (seen Et ((l.map bQ).take k))=_:=jD N8 (bQ l[k]) ((l.map bQ).take k);unfold fj;dsimp only;rw[if_pos h1,aV,List.getElem?_map,List.getElem?_eq_getElem hk];simp only[Option.map_some,U,TN,QC,QD,QE,TO,He,dh,asInt,asBool,ae,if_true,List.length_map,hid,gI,cB,List.length_cons,List.length_nil,Nat.reduceAdd,List.getD_cons_zero,List.getD_cons_succ,cC,sV,oc,o9,zC,Jv,zB,va,CM,mY bQ l k hk,aI (show k<9223372036854775807 by omega)];unfold kc;rw[List.getElem?_eq_getElem hk];simp only;generalize (decide (l[k].dA< -1)||decide (l[k].inst<0))=A;generalize (decide (l[k].day<0)||decide (l[k].day>36524))=B;generalize (decide (l[k].bd<0)||decide (l[k].bd≥(N.ao.length:Int)))=C;generalize (bx l[k].calls N.stops.length 0 3155932800).2=e;cases gg l[k].id with
 |false=>rfl
 |true=>
  cases A with
  |true=>rfl
  |false=>
   cases B with
   |true=>rfl
   |false=>
    cases C with
    |true=>rfl
    |false=>
     simp only[Bool.not_true,Bool.false_eq_true,Bool.true_eq_false,if_false];by_cases he:e=0
     ·subst he;by_cases cQ:bQ l[k]∈(l.map bQ).take k
      ·simp only[cQ,if_true,decide_true,Bool.not_true,Bool.false_eq_true,if_false];rfl
      ·simp only[cQ,if_true,decide_true,decide_false,Bool.not_true,Bool.false_eq_true,if_false];rfl
     ·simp only[he,if_false,if_true,decide_false,Bool.not_false];rfl
theorem CO(N:aj)(hl:N.runs.length≤maxLen∧∀y∈N.runs,y.Ok):cX [N.pv]=some (prt 2 (gh N.runs N.stops.length N.ao.length)):=by
 have hm:=c8;simp only[cX,jZ,uF,vN,vO,vP,vQ,vR,vS,vT,vU,vV,U,List.length_map];generalize Mv:N.runs=l at hl⊢;unfold gh;by_cases As:l.length>1024
 ·rw[if_pos (by simp;omega),if_pos As];rfl
 ·rw[if_neg (by simp;omega),if_neg As];have hR:some (prt 2 (dI (kc l N.stops.length N.ao.length) l.length))=if(dI (kc l N.stops.length N.ao.length) l.length).2=0 then some (r3 0 0 0)else some (r3 2 (dI (kc l N.stops.length N.ao.length) l.length).1 (dI (kc l N.stops.length N.ao.length) l.length).2):=by
   unfold prt;by_cases h:(dI (kc l N.stops.length N.ao.length) l.length).2=0
   ·rw[if_pos h,if_pos h]
   ·rw[if_neg h,if_neg h]
  rw[hR,←pa (kc l N.stops.length N.ao.length) l.length (fun i e=>r3 2 i e)];refine cG (fun k=>(l.map cz.pv,(l.length:Int),(k:Int),N.stops.map Stop.pv,N.ao.map aW.pv,l.map cz.pv,N.aJ.map aM.pv,N.paths.map Path.pv,N.aU.map bX.pv,N.cM,N.within,N.cap,0,0,0,seen Et ((l.map bQ).take k),())) l.length _ (fun k hk rec=>Hh N l hl k hk rec) (fun rec=>?_) ?_ rfl
  ·unfold fj;dsimp only;rw[if_neg (by simp)];rfl
  ·have:=c9;omega
end Go.Ab.Tt
namespace Go.Ab.Tt
set_option maxRecDepth 100000
set_option linter.unusedVariables false
set_option linter.unusedSimpArgs false
def nx(p:List aM)(v:Int):Option Int:=p.foldl (fun o x=>if(x.stay&&decide (x.a=v))=true then some x.b else o) none
theorem sl(p:List aM)(x:aM)(v:Int):nx (p++[x]) v=if(x.stay&&decide (x.a=v))=true then some x.b else nx p v:=by unfold nx;rw[List.foldl_append];rfl
def it(f:Int→Option Int):Nat→Int→Option Int
 |0,v=>some v
 |m+1,v=>(f v).bind (it f m)
theorem QH(f:Int→Option Int)(m:Nat)(v:Int):it f (m+1) v=(it f m v).bind f:=by
 induction m generalizing v with
 |zero=>show(f v).bind (it f 0)=f v;cases h:f v<;>rfl
 |succ m ih=>
  show(f v).bind (it f (m+1))=((f v).bind (it f m)).bind f;cases h:f v with
  |none=>rfl
  |some w=>exact ih w
def pL(p:List aM)(a b:Int)(n:Nat):Bool:=(List.range n).any fun t=>decide (it (nx p) (t+1) a=some b)
def tC(f:Int→Option Int):Prop:=∃r:Int→Nat,∀v w,f v=some w→r w<r v
theorem Hi:tC (nx []):=⟨fun _=>0,fun v w h=>by cases h⟩
variable{p:List aM}
theorem N9{v w:Int}(h:nx p v=some w):∃x∈p,x.stay=true∧x.a=v∧x.b=w:=by
 have key:∀n,n≤p.length→nx (p.take n) v=some w→∃x∈p,x.stay=true∧x.a=v∧x.b=w:=by
  intro n;induction n with
  |zero=>intro _ h;cases h
  |succ n ih=>
   intro hn h;have MF:n<p.length:=by omega
   rw[List.take_succ_eq_append_getElem MF,sl]at h;by_cases hc:(p[n].stay&&decide (p[n].a=v))=true
   ·rw[if_pos hc]at h;simp only[Bool.and_eq_true,decide_eq_true_eq]at hc;exact⟨p[n],List.getElem_mem MF,hc.1,hc.2,by simpa using h⟩
   ·rw[if_neg hc]at h;exact ih (by omega) h
 exact key p.length (Nat.le_refl _) (by rw[List.take_length];exact h)
theorem Hj{f:Int→Option Int}(hf:tC f)(S:List Int)(hS:∀v w,f v=some w→v∈S):∀m v,it f m v≠none→m≤S.length:=by
 obtain⟨r,hr⟩:=hf;induction hn:S.length generalizing S f r with
 |zero=>
  intro m v h;cases m with
  |zero=>omega
  |succ m=>
   exfalso;cases TP:f v with
   |none=>exact h (by show(f v).bind _=none;rw[TP];rfl)
   |some w=>have:=hS v w TP;rw[List.length_eq_zero_iff.1 hn]at this;cases this
 |succ n ih=>
  intro m v h;cases m with
  |zero=>omega
  |succ m=>
   cases TP:f v with
   |none=>exact absurd (by show(f v).bind _=none;rw[TP];rfl) h
   |some w=>
    have hvS:=hS v w TP;let g:Int→Option Int:=fun x=>if x=v then none else f x;have hg:∀x y,g x=some y→r y<r x:=fun x y QI=>by
     by_cases hx:x=v
     ·simp[g,hx]at QI
     ·simp only[g,hx,if_false]at QI;exact hr x y QI
    have hgS:∀x y,g x=some y→x∈S.erase v:=fun x y QI=>by
     by_cases hx:x=v
     ·simp[g,hx]at QI
     ·simp only[g,hx,if_false]at QI;exact(List.mem_erase_of_ne hx).2 (hS x y QI)
    have hlen:(S.erase v).length=n:=by rw[List.length_erase_of_mem hvS];omega
    have Nc:∀k x,r x<r v→it g k x=it f k x:=by
     intro k;induction k with
     |zero=>intros;rfl
     |succ k SZ=>
      intro x hx;have hxv:x≠v:=fun h=>by subst h;omega
      show(g x).bind (it g k)=(f x).bind (it f k);have:g x=f x:=by simp[g,hxv]
      rw[this];cases hfx:f x with
      |none=>rfl
      |some y=>exact SZ y (by have:=hr x y hfx;omega)
    have hw:it f m w≠none:=by intro hc;apply h;show(f v).bind (it f m)=none;rw[TP];exact hc
    have:=ih (S.erase v) hgS r hg hlen m w (by rw[Nc m w (hr v w TP)];exact hw);omega
theorem CP(hp:tC (nx p)){m:Nat}(hm:p.length<m)(v:Int):it (nx p) m v=none:=by
 cases h:it (nx p) m v with
 |none=>rfl
 |some w=>have:=Hj hp (p.map aM.a) (fun x y QI=>by obtain⟨l,h1,h2,h3,h4⟩:=N9 QI;exact List.mem_map.2 ⟨l,h1,h3⟩) m v (by rw[h];exact fun h=>nomatch h);rw[List.length_map]at this;omega
theorem Eu(hp:tC (nx p))(x:aM)(h:x.stay=false∨(x.a≠x.b∧nx p x.a=none∧pL p x.b x.a (p.length+1)=false)):tC (nx (p++[x])):=by
 cases hs:x.stay with
 |false=>obtain⟨r,hr⟩:=hp;refine⟨r,fun v w Jx=>hr v w ?_⟩;rw[sl,hs,Bool.false_and,if_neg (by simp)]at Jx;exact Jx
 |true=>
  rw[hs]at h;rcases h with h|⟨oH,hna,Oa⟩
  ·cases h
  have Ao:=hp;obtain⟨r,hr⟩:=hp;have vB:∀t,it (nx p) (t+1) x.b≠some x.a:=by
   intro t ht;by_cases ba:t<p.length+1
   ·unfold pL at Oa;rw[List.any_eq_false]at Oa;exact Oa t (by simpa using ba) (by simpa using ht)
   ·rw[CP Ao (by omega)]at ht;cases ht
  let R:Int→Prop:=fun v=>∃t,it (nx p) t v=some x.a;have hRb:¬R x.b:=fun⟨t,ht⟩=>by
   cases t with
   |zero=>exact oH (by simpa[it]using ht.symm)
   |succ t=>exact vB t ht
  refine⟨fun v=>open Classical in if R v then r v+r x.b+1 else r v,fun v w Jx=>?_⟩;rw[sl,hs,Bool.true_and]at Jx;by_cases hv:x.a=v
  ·rw[if_pos (by simpa using hv)]at Jx;simp only[Option.some.injEq]at Jx;subst Jx;have UW:R v:=⟨0,by show some v=some x.a;rw[hv]⟩;show(open Classical in if R x.b then r x.b+r x.b+1 else r x.b)<(open Classical in if R v then r v+r x.b+1 else r v);rw[if_neg hRb,if_pos UW];omega
  ·rw[if_neg (by simpa using hv)]at Jx;have ba:=hr v w Jx;show(open Classical in if R w then r w+r x.b+1 else r w)<(open Classical in if R v then r v+r x.b+1 else r v);by_cases hw:R w
   ·have UW:R v:=by obtain⟨t,ht⟩:=hw;exact⟨t+1,by show(nx p v).bind (it (nx p) t)=some x.a;rw[Jx];exact ht⟩
    rw[if_pos hw,if_pos UW];omega
   ·rw[if_neg hw];by_cases UW:R v
    ·rw[if_pos UW];omega
    ·rw[if_neg UW];exact ba
end Go.Ab.Tt
namespace Go.Ab.Tt
set_option maxRecDepth 100000
set_option linter.unusedVariables false
set_option linter.unusedSimpArgs false
def nJ(a:Int):PV:=.int .i64 a
def eD(x:aM):Int×Int×Int×Int:=(x.a,x.ac,x.b,x.bc)
def Ev(x:Int×Int×Int×Int):PV:=.agg [.int .i64 x.1,.int .i64 x.2.1,.int .i64 x.2.2.1,.int .i64 x.2.2.2]
theorem Ob(a b:Int×Int×Int×Int):cA (Ev a).cells (Ev b).cells=decide (a=b):=by obtain⟨a1,a2,a3,a4⟩:=a;obtain⟨b1,b2,b3,b4⟩:=b;rw[Bool.eq_iff_iff];simp[Ev,PV.cells,cA,peq]
def sW(p:List aM):List (Int×PV):=p.foldl (fun m x=>if x.stay=true then tD x.a (.int .i64 x.b) m else m) []
theorem tE(p:List aM)(x:aM):sW (p++[x])=if x.stay=true then tD x.a (.int .i64 x.b) (sW p)else sW p:=by unfold sW;rw[List.foldl_append];rfl
def Hk(a:Int)(m:List (Int×PV)):Bool:=m.any fun x=>decide (a=x.1)
theorem Jy(a:Int):∀m,qn (nJ a) (qe nJ m)=Hk a m
 |[]=>rfl
 |(b,u)::r=>by have:=Jy a r;simp only[qe]at this;simp only[qe,List.map_cons,qn,Hk,List.any_cons];rw[this];have:cA (nJ a).cells (nJ b).cells=decide (a=b):=uG a b;rw[this];rfl
theorem Ew(a b:Int)(v:PV):∀m,Hk a (tD b v m)=(decide (a=b)||Hk a m)
 |[]=>by simp[Hk,tD]
 |(c,u)::r=>by
  have:=Ew a b v r;simp only[Hk]at this⊢;by_cases h:b=c
  ·subst h;simp[tD]
  ·simp only[tD,h,if_false,List.any_cons,this];cases decide (a=c)<;>simp
theorem uH{A:Type}{P:List A→Prop}(h0:P [])(h1:∀p x,P p→P (p++[x]))(l:List A):P l:=by
 have key:∀n,n≤l.length→P (l.take n):=by
  intro n;induction n with
  |zero=>intro _;rw[List.take_zero];exact h0
  |succ n ih=>intro hn;rw[List.take_succ_eq_append_getElem (show n<l.length by omega)];exact h1 _ _ (ih (by omega))
 have:=key l.length (Nat.le_refl _);rw[List.take_length]at this;exact this
theorem La(p:List aM)(v:Int):rz v (.int .i64 0) (sW p)=.int .i64 ((nx p v).getD 0):=by
 induction p using uH with
 |h0=>rfl
 |h1 p x ih=>
  rw[tE,sl];cases hs:x.stay with
  |false=>rw[if_neg (by simp),Bool.false_and,if_neg (by simp)];exact ih
  |true=>
   rw[if_pos rfl,vX,Bool.true_and];by_cases h:x.a=v
   ·rw[if_pos h.symm,if_pos (by simpa using h)];rfl
   ·rw[if_neg (fun hc=>h hc.symm),if_neg (by simpa using h)];exact ih
theorem Oc(p:List aM)(v:Int):Hk v (sW p)=(nx p v).isSome:=by
 induction p using uH with
 |h0=>rfl
 |h1 p x ih=>
  rw[tE,sl];cases hs:x.stay with
  |false=>rw[if_neg (by simp),Bool.false_and,if_neg (by simp)];exact ih
  |true=>
   rw[if_pos rfl,Ew,Bool.true_and];by_cases h:x.a=v
   ·rw[if_pos (by simpa using h)];simp[h]
   ·rw[if_neg (by simpa using h),ih];have:decide (v=x.a)=false:=by simpa using fun hc=>h hc.symm
    rw[this,Bool.false_or]
def ly(p:List aM):List (PV×PV):=qe nJ (sW p)
theorem tF(p:List aM)(v:Int):dB (.int .i64 v) (.int .i64 0) (ly p)=.int .i64 ((nx p v).getD 0):=by have:=zG (key:=nJ) uG v (.int .i64 0) (sW p);rw[La]at this;exact this
theorem vY(p:List aM)(v:Int):qn (.int .i64 v) (ly p)=(nx p v).isSome:=by have:=Jy v (sW p);rw[Oc]at this;exact this
theorem Hl(p:List aM)(x:aM):ly (p++[x])=if x.stay=true then eA (.int .i64 x.a) (.int .i64 x.b) (ly p)else ly p:=by
 have:=CQ (key:=nJ) uG x.a (.int .i64 x.b) (sW p);unfold ly;rw[tE];by_cases h:x.stay=true
 ·rw[if_pos h,if_pos h];exact this.symm
 ·rw[if_neg h,if_neg h]
def lQ(p:List aM):List Int:=(p.filter aM.stay).map aM.b
theorem Hm(p:List aM)(x:aM):lQ (p++[x])=if x.stay=true then lQ p++[x.b]else lQ p:=by unfold lQ;by_cases h:x.stay=true<;>simp[List.filter_append,List.filter_cons,h]
def TQ(f:Int→Option Int)(a b:Int)(t:Nat):Option (Option PV):=(it f (t+1) a).elim (some (some (.bool false))) fun v=>if v=b then some (some (.bool true))else none
theorem Hn(f:Int→Option Int)(b:Int)(n:Nat):∀a,it f (n+1) a=none→eP ((List.range n).findSome? (TQ f a b)) (some (.bool false))=some (.bool ((List.range (n+1)).any fun t=>decide (it f (t+1) a=some b))):=by
 induction n with
 |zero=>intro a h;simp[eP,h]
 |succ n ih=>
  intro a h;rw[List.range_succ_eq_map (n:=n+1),List.range_succ_eq_map (n:=n),List.findSome?_cons,List.any_cons];have h0:it f (0+1) a=f a:=by show(f a).bind (it f 0)=f a;cases hf:f a<;>rfl
  unfold TQ;rw[h0];cases hf:f a with
  |none=>
   have hz:∀t,it f (t+1) a=none:=fun t=>by show(f a).bind _=none;rw[hf];rfl
   simp only[Option.elim,eP,List.any_map,Function.comp_def,hz];simp
  |some v=>
   have hs:∀t,it f (t+1+1) a=it f (t+1) v:=fun t=>by show(f a).bind _=_;rw[hf];rfl
   by_cases hv:v=b
   ·subst hv;simp only[Option.elim,if_true,eP,decide_true,Bool.true_or]
   ·have hd:decide (some v=some b)=false:=by simpa using hv
    simp only[Option.elim,if_neg hv,hd,Bool.false_or];have:=ih v (by rw[←hs];exact h);rw[List.findSome?_map,List.any_map];simp only[Function.comp_def,Nat.succ_eq_add_one,hs];rw[←List.range_succ_eq_map];exact this
theorem Ho(p:List aM)(hp:tC (nx p))(hl:p.length≤maxLen)(a b:Int):eF [.rm 3 ((ly p).map fun x=>x.fst) ((ly p).map fun x=>x.snd),.int .i64 a,.int .i64 b]=some (.bool (pL p a b (p.length+1))):=by
 have hz:((ly p).map fun x=>x.fst).zip ((ly p).map fun x=>x.snd)=ly p:=by
  generalize ly p=m;induction m with
  |nil=>rfl
  |cons x m ih=>simp only[List.map_cons,List.zip_cons_cons,ih]
 simp only[eF,oh,dF,if_true,asInt,U,hz,tF,vY];unfold pL;rw[←Hn (nx p) b p.length a (CP hp (by omega) a)];refine cG (fun t=>(PV.rm 3 ((ly p).map fun x=>x.fst) ((ly p).map fun x=>x.snd),b,(it (nx p) (t+1) a).getD 0,(it (nx p) (t+1) a).isSome,())) p.length _ (fun t ht rec=>?_) (fun rec=>?_) (by have:=c9;omega) ?_
 ·unfold iv TQ;dsimp only;rw[QH (nx p) (t+1) a];cases hv:it (nx p) (t+1) a with
  |none=>rfl
  |some v=>
   simp only[Option.isSome_some,Option.getD_some,if_true,j6,decide_eq_true_eq,Option.elim];by_cases hvb:v=b
   ·rw[if_pos hvb,if_pos hvb];rfl
   ·rw[if_neg hvb,if_neg hvb];simp only[dF,if_true,hz,tF,vY,asInt,U,eP,Option.bind_some]
 ·unfold iv;dsimp only;rw[CP hp (by omega)];rfl
 ·show(_,b,(it (nx p) 1 a).getD 0,(it (nx p) 1 a).isSome,())=_;have:it (nx p) 1 a=nx p a:=by show(nx p a).bind _=_;cases nx p a<;>rfl
  rw[this]
def aF(runs:List cz)(a:Int):List an:=((runs[a.toNat]?).map cz.calls).getD []
def e8(cs:List an)(c:Int):Int:=((cs[c.toNat]?).map an.stop).getD 0
def vZ(x:aM)(R:Int):Bool:= !(decide (x.a≥0)&&decide (x.a<R))|| !(decide (x.b≥0)&&decide (x.b<R))||decide (x.a=x.b)
def zH(x:aM)(A B:Int):Bool:= !(decide (x.ac≥0)&&decide (x.ac<A))|| !(decide (x.bc≥0)&&decide (x.bc<B))
def nK(p:List aM)(x:aM)(A:Int):Bool:=x.stay&&(!decide (x.ac+1=A)|| !decide (x.bc=0)||(nx p x.a).isSome||decide (x.b∈lQ p)||pL p x.b x.a (p.length+1))
def fC(runs:List cz)(l:List aM)(k:Nat):Int:=match l[k]? with
 |none=>0
 |some x=>if vZ x runs.length=true then 9 else if zH x (aF runs x.a).length (aF runs x.b).length=true then 9 else if e8 (aF runs x.a) x.ac≠e8 (aF runs x.b) x.bc then 13 else if nK (l.take k) x (aF runs x.a).length=true then 19 else if eD x∈(l.map eD).take k then 6 else 0
def ke(runs:List cz)(l:List aM):Int×Int:=if l.length>1024 then(0,5)else dI (fC runs l) l.length
theorem Hq(runs:List cz)(l:List aM)(k:Nat)(hk:k≤l.length)(h:∀j,j<k→fC runs l j=0):tC (nx (l.take k))∧∀x∈l.take k,0≤x.a:=by
 induction k with
 |zero=>rw[List.take_zero];exact⟨Hi,fun x hx=>by cases hx⟩
 |succ k ih=>
  have sx:k<l.length:=by omega
  obtain⟨h1,h2⟩:=ih (by omega) fun j hj=>h j (by omega);have hz:=h k (by omega);unfold fC at hz;rw[List.getElem?_eq_getElem sx]at hz;simp only at hz;have hr:vZ l[k] runs.length=false:=by
   cases hr:vZ l[k] runs.length with
   |false=>rfl
   |true=>rw[hr,if_pos rfl]at hz;cases hz
  have hs:nK (l.take k) l[k] (aF runs l[k].a).length=false:=by
   cases hs:nK (l.take k) l[k] (aF runs l[k].a).length with
   |false=>rfl
   |true=>
    rw[hs]at hz;split at hz
    ·cases hz
    ·split at hz
     ·cases hz
     ·split at hz
      ·cases hz
      ·rw[if_pos rfl]at hz;cases hz
  unfold vZ at hr;simp only[Bool.or_eq_false_iff,Bool.not_eq_false',Bool.and_eq_true,decide_eq_true_eq,decide_eq_false_iff_not]at hr;rw[List.take_succ_eq_append_getElem sx];refine⟨Eu h1 l[k] ?_,fun x hx=>?_⟩
  ·unfold nK at hs;cases sJ:l[k].stay with
   |false=>exact Or.inl rfl
   |true=>
    rw[sJ,Bool.true_and]at hs;simp only[Bool.or_eq_false_iff]at hs;refine Or.inr ⟨hr.2,?_,hs.2⟩;have:=hs.1.1.2;cases hn:nx (l.take k) l[k].a with
    |none=>rfl
    |some w=>rw[hn]at this;cases this
  ·rcases List.mem_append.1 hx with hx|hx
   ·exact h2 x hx
   ·rw[List.mem_singleton]at hx;subst hx;exact hr.1.1.1
theorem Ey(runs:List cz)(a:Int)(h:0≤a∧a<(runs.length:Int)):∃r∈runs,da (runs.map cz.pv) a=some r.pv∧aF runs a=r.calls:=by
 obtain⟨n,rfl⟩:=Int.eq_ofNat_of_zero_le h.1;have hn:n<runs.length:=by omega
 refine⟨runs[n],List.getElem_mem hn,?_,?_⟩
 ·rw[aV,List.getElem?_map,List.getElem?_eq_getElem hn];rfl
 ·unfold aF;rw[Int.toNat_natCast,List.getElem?_eq_getElem hn];rfl
theorem BC(cs:List an)(c:Int)(h:0≤c∧c<(cs.length:Int)):∃r,da (cs.map an.pv) c=some r∧cell r 0=.int .i64 (e8 cs c):=by
 obtain⟨n,rfl⟩:=Int.eq_ofNat_of_zero_le h.1;have hn:n<cs.length:=by omega
 refine⟨cs[n].pv,?_,?_⟩
 ·rw[aV,List.getElem?_map,List.getElem?_eq_getElem hn];rfl
 ·unfold e8;rw[Int.toNat_natCast,List.getElem?_eq_getElem hn];rfl
end Go.Ab.Tt
namespace Go.Ab.Tt
set_option maxRecDepth 100000
set_option linter.unusedVariables false
set_option linter.unusedSimpArgs false
theorem Ez{runs:List cz}(h:∀y∈runs,y.Ok)(a:Int):(aF runs a).length≤maxLen:=by
 unfold aF;cases hr:runs[a.toNat]? with
 |none=>simp
 |some r=>exact(h r (List.mem_of_getElem? hr)).calls.1
theorem EA(N:aj)(runs:List cz)(hr:∀y∈runs,y.Ok)(l:List aM)(hl:l.length≤maxLen)(k:Nat)(hk:k<l.length)(D8:∀j,j<k→fC runs l j=0)(rec:TY0→Option PV):eZ (l.map aM.pv,(l.length:Int),(k:Int),N.stops.map Stop.pv,N.ao.map aW.pv,runs.map cz.pv,l.map aM.pv,N.paths.map Path.pv,N.aU.map bX.pv,N.cM,N.within,N.cap,0,0,0,ly (l.take k),seen nJ (lQ (l.take k)),seen Ev ((l.map eD).take k),()) rec=eP (if fC runs l k=0 then none else some (some (r3 3 k (fC runs l k)))) (rec (l.map aM.pv,(l.length:Int),((k+1:Nat):Int),N.stops.map Stop.pv,N.ao.map aW.pv,runs.map cz.pv,l.map aM.pv,N.paths.map Path.pv,N.aU.map bX.pv,N.cM,N.within,N.cap,0,0,0,ly (l.take (k+1)),seen nJ (lQ (l.take (k+1))),seen Ev ((l.map eD).take (k+1)),())):=by
 have hm:=c8;have h1:decide ((k:Int)<(l.length:Int))=true:=by simp;omega
 obtain⟨WO,_⟩:=Hq runs l k (by omega) D8;have hlen:(l.take k).length=k:=by simp;omega
 have TR:=Ho (l.take k) WO (by omega) l[k].b l[k].a;have oc:eA (.agg [.int .i64 l[k].a,.int .i64 l[k].ac,.int .i64 l[k].b,.int .i64 l[k].bc]) (.bool true) (seen Ev ((l.map eD).take k))=_:=lv Ob (eD l[k]) ((l.map eD).take k);have o9:dB (.agg [.int .i64 l[k].a,.int .i64 l[k].ac,.int .i64 l[k].b,.int .i64 l[k].bc]) (.bool false) (seen Ev ((l.map eD).take k))=_:=jD Ob (eD l[k]) ((l.map eD).take k);have WQ:eA (.int .i64 l[k].b) (.bool true) (seen nJ (lQ (l.take k)))=_:=lv (key:=nJ) uG l[k].b (lQ (l.take k));have TS:dB (.int .i64 l[k].b) (.bool false) (seen nJ (lQ (l.take k)))=_:=jD (key:=nJ) uG l[k].b (lQ (l.take k));have hsn:l.take (k+1)=l.take k++[l[k]]:=List.take_succ_eq_append_getElem hk;unfold eZ;dsimp only;rw[if_pos h1,aV,List.getElem?_map,List.getElem?_eq_getElem hk,hsn,Hl,Hm,mY eD l k hk];simp only[Option.map_some,U,RY,RZ,link2,R0,R1,asInt,asBool,if_true,List.length_map,tB,cC,j6];unfold fC;rw[List.getElem?_eq_getElem hk];simp only;have hR:(!(decide (l[k].a≥0)&&decide (l[k].a<(runs.length:Int)))|| !(decide (l[k].b≥0)&&decide (l[k].b<(runs.length:Int)))||decide (l[k].a=l[k].b))=vZ l[k] runs.length:=rfl;rw[hR];cases hb:vZ l[k] runs.length with
 |true=>simp only[if_true,zC,U,Jv,zB,va,CM];rfl
 |false=>
  unfold vZ at hb;simp only[Bool.or_eq_false_iff,Bool.not_eq_false',Bool.and_eq_true,decide_eq_true_eq,decide_eq_false_iff_not]at hb;obtain⟨ra,hra,hia,VQ⟩:=Ey runs l[k].a ⟨hb.1.1.1,hb.1.1.2⟩;obtain⟨rb,Gc,UH,Od⟩:=Ey runs l[k].b ⟨hb.1.2.1,hb.1.2.2⟩;have hA:=Ez hr l[k].a;rw[hia,UH];simp only[U,He,ae,if_true,List.length_map,←VQ,←Od,tB,asBool,cC];have hC:(!(decide (l[k].ac≥0)&&decide (l[k].ac<((aF runs l[k].a).length:Int)))|| !(decide (l[k].bc≥0)&&decide (l[k].bc<((aF runs l[k].b).length:Int))))=zH l[k] (aF runs l[k].a).length (aF runs l[k].b).length:=rfl;rw[hC];cases K2:zH l[k] (aF runs l[k].a).length (aF runs l[k].b).length with
  |true=>simp only[if_true,zC,U,Jv,zB,va,CM];rfl
  |false=>
   unfold zH at K2;simp only[Bool.or_eq_false_iff,Bool.not_eq_false',Bool.and_eq_true,decide_eq_true_eq]at K2;obtain⟨ka,VO,hsa⟩:=BC (aF runs l[k].a) l[k].ac K2.1;obtain⟨kb,hkb,VR⟩:=BC (aF runs l[k].b) l[k].bc K2.2;have hw:IntKind.i64.wrap (l[k].ac+1)=l[k].ac+1:=ic (by omega) (by omega);simp only[Bool.false_eq_true,if_false,VO,hkb,U,hsa,VR,tF,vY,o9,TS,oc,WQ,asInt,asBool,if_true,TR,hw,hlen,cC,iu,sV,zC,Jv,zB,va,CM,aI (show k<9223372036854775807 by omega)];have hS:(l[k].stay&&(!decide (l[k].ac+1=((aF runs l[k].a).length:Int))|| !decide (l[k].bc=0)||(nx (l.take k) l[k].a).isSome||decide (l[k].b∈lQ (l.take k))||pL (l.take k) l[k].b l[k].a (k+1)))=nK (l.take k) l[k] (aF runs l[k].a).length:=by unfold nK;rw[hlen]
   rw[hS];generalize nK (l.take k) l[k] (aF runs l[k].a).length=S;by_cases sJ:e8 (aF runs l[k].a) l[k].ac=e8 (aF runs l[k].b) l[k].bc
   ·simp only[sJ,decide_true,Bool.not_true,Bool.false_eq_true,if_false,ne_eq,not_true];cases S with
    |true=>rfl
    |false=>
     by_cases cQ:eD l[k]∈(l.map eD).take k
     ·simp only[cQ,decide_true,if_true,Bool.false_eq_true,if_false];rfl
     ·simp only[cQ,decide_false,if_true,Bool.false_eq_true,if_false];cases l[k].stay<;>rfl
   ·simp only[sJ,decide_false,Bool.not_false,if_true,ne_eq,not_false_eq_true];rfl
theorem AE(N:aj)(hr:N.runs.length≤maxLen∧∀y∈N.runs,y.Ok)(hl:N.aJ.length≤maxLen):bT [N.pv]=some (prt 3 (ke N.runs N.aJ)):=by
 have hm:=c8;simp only[bT,jn,uF,vN,vO,vP,vQ,vR,vS,vT,vU,vV,U,List.length_map];generalize Mv:N.aJ=l at hl⊢;generalize oQ:N.runs=runs at hr⊢;unfold ke;by_cases As:l.length>1024
 ·rw[if_pos (by simp;omega),if_pos As];rfl
 ·rw[if_neg (by simp;omega),if_neg As];have hR:some (prt 3 (dI (fC runs l) l.length))=if(dI (fC runs l) l.length).2=0 then some (r3 0 0 0)else some (r3 3 (dI (fC runs l) l.length).1 (dI (fC runs l) l.length).2):=by
   unfold prt;by_cases h:(dI (fC runs l) l.length).2=0
   ·rw[if_pos h,if_pos h]
   ·rw[if_neg h,if_neg h]
  rw[hR,←pa (fC runs l) l.length (fun i e=>r3 3 i e)];refine AB (fun k=>(l.map aM.pv,(l.length:Int),(k:Int),N.stops.map Stop.pv,N.ao.map aW.pv,runs.map cz.pv,l.map aM.pv,N.paths.map Path.pv,N.aU.map bX.pv,N.cM,N.within,N.cap,0,0,0,ly (l.take k),seen nJ (lQ (l.take k)),seen Ev ((l.map eD).take k),())) l.length _ (fun k hk D8 rec=>EA N runs hr.2 l hl k hk (fun j hj=>?_) rec) (fun _ rec=>?_) (by have:=c9;omega) rfl
  ·have:=D8 j hj;by_cases h0:fC runs l j=0
   ·exact h0
   ·rw[if_neg h0]at this;cases this
  ·unfold eZ;dsimp only;rw[if_neg (by simp)];rfl
end Go.Ab.Tt
namespace Go.Ab.Tt
set_option maxRecDepth 100000
set_option linter.unusedVariables false
set_option linter.unusedSimpArgs false
def fv(N:aj):Int×Int×Int:=
 if(j7 N.stops).2=0 then
  if(j8 N.ao).2=0 then
   if(gh N.runs N.stops.length N.ao.length).2=0 then
    if(ke N.runs N.aJ).2=0 then
     if(lx N.paths N.stops.length).2=0 then if(nI N.aU N.cM N.within N.cap).2=0 then(0,0,0)else(5,nI N.aU N.cM N.within N.cap)
     else(4,lx N.paths N.stops.length)
    else(3,ke N.runs N.aJ)
   else(2,gh N.runs N.stops.length N.ao.length)
  else(1,j8 N.ao)
 else(0,j7 N.stops)
def sX(x:Int×Int×Int):PV:=.bA [.int .i64 x.1,.int .i64 x.2.1,.int .i64 x.2.2]
theorem r3E(p i e:Int):PV.agg [cell (r3 p i e) 0,cell (r3 p i e) 1,cell (r3 p i e) 2]=r3 p i e:=rfl
theorem R2(p i e:Int):PV.agg [.int .i64 p,.int .i64 i,.int .i64 e]=r3 p i e:=rfl
theorem rA(p i e q j f:Int):ck [.rs 3 [r3 p i e,r3 q j f]]=some (if e=0 then(if f=0 then r3 0 0 0 else r3 q j f)else r3 p i e):=by
 simp only[ck,oA,ae,if_true,U];have h0:=cG (body:=fL) (fun k=>([r3 p i e,r3 q j f],(2:Int),(k:Int),0,0,0,())) 2 (fun k=>if k=0 then(if e=0 then none else some (some (r3 p i e)))else(if f=0 then none else some (some (r3 q j f)))) (fin:=some (r3 0 0 0)) (fun k hk rec=>?_) (fun rec=>?_) (by decide) (s0:=([r3 p i e,r3 q j f],(2:Int),0,0,0,0,())) rfl
 ·refine h0.trans ?_;have:List.range 2=[0,1]:=rfl;rw[this];by_cases he:e=0
  ·by_cases hf:f=0<;>simp[he,hf,eP]
  ·simp[he,eP]
 ·have h2:k=0∨k=1:=by omega
  rcases h2 with rfl|rfl
  ·unfold fL;dsimp only;rw[if_pos (by simp),aV];simp only[List.getElem?_cons_zero,U,CM,asInt,if_true,sV,r3E,aI (show 0<9223372036854775807 by omega)];by_cases he:e=0
   ·simp only[he,decide_true,Bool.not_true,Bool.false_eq_true,if_false,if_true];rfl
   ·simp only[he,decide_false,Bool.not_false,if_false,if_true];rfl
  ·unfold fL;dsimp only;rw[if_pos (by simp),aV];simp only[List.getElem?_cons_succ,List.getElem?_cons_zero,U,CM,asInt,if_true,sV,r3E,aI (show 1<9223372036854775807 by omega)];by_cases he:f=0
   ·simp only[he,decide_true,Bool.not_true,Bool.false_eq_true,if_false,if_true];rfl
   ·simp only[he,decide_false,Bool.not_false,if_false,if_true];rfl
 ·unfold fL;dsimp only;rw[if_neg (by simp)];rfl
theorem Hr(p:Int)(x:Int×Int):prt p x=if x.2=0 then r3 0 0 0 else r3 p x.1 x.2:=rfl
theorem BD{l:List Stop}(h:(j7 l).2=0):l.length≤64:=by
 unfold j7 at h;by_cases As:l.length>64
 ·rw[if_pos As]at h;cases h
 ·omega
theorem zI(a b:Int):(a==b)=decide (a=b):=j6 a b
theorem zJ(N:aj)(h:N.Ok)(hp:N.paths.length≤4096):dR [N.pv]=some (sX (fv N)):=by
 have hs:=K5 N.stops h.stops;have hr:=Hc N.ao h.ao;have hu:=CO N h.runs;have hl:=AE N h.runs h.aJ.1;have hf:=Hd N.aU N.cM N.within N.cap h.aU;unfold CL at hf;simp only[dR,oq,uF,vN,vO,vP,vQ,vR,vS,vT,vU,vV,U,K6];simp only[hs,hr,hf,hu,hl,U,res,cB,List.length_cons,List.length_nil,Nat.reduceAdd,if_true,List.getD_cons_zero,List.getD_cons_succ,zC,Jv,R2,rA];unfold fv;by_cases h1:(j7 N.stops).2=0
 ·have hpa:=AD N (BD h1) hp;simp only[hpa,U,h1,if_true];by_cases h2:(j8 N.ao).2=0
  ·simp only[h2,if_true];rw[Hr 2,Hr 3,Hr 4];by_cases h3:(gh N.runs N.stops.length N.ao.length).2=0
   ·simp only[h3,if_true];by_cases h4:(ke N.runs N.aJ).2=0
    ·simp only[h4,if_true];by_cases h5:(lx N.paths N.stops.length).2=0
     ·simp only[h5,if_true];by_cases h6:(nI N.aU N.cM N.within N.cap).2=0
      ·simp only[h6,if_true,Jv,R2,zB,va,CM,asInt,U,rA,zI,decide_true,decide_false,Bool.false_eq_true,sX]
      ·simp only[h6,if_true,if_false,Jv,R2,zB,va,CM,asInt,U,rA,zI,decide_true,decide_false,Bool.false_eq_true,sX]
     ·simp only[h5,if_true,if_false,Jv,R2,zB,va,CM,asInt,U,rA,zI,decide_true,decide_false,Bool.false_eq_true,sX]
    ·simp only[h4,if_true,if_false,Jv,R2,zB,va,CM,asInt,U,rA,zI,decide_true,decide_false,Bool.false_eq_true,sX]
   ·simp only[h3,if_true,if_false,Jv,R2,zB,va,CM,asInt,U,rA,zI,decide_true,decide_false,Bool.false_eq_true,sX]
  ·simp only[h2,if_true,if_false,Jv,R2,zB,va,CM,asInt,U,rA,zI,decide_true,decide_false,Bool.false_eq_true,sX]
 ·simp only[h1,if_true,if_false,Jv,R2,zB,va,CM,asInt,U,rA,zI,decide_true,decide_false,Bool.false_eq_true,sX]
end Go.Ab.Tt
namespace Go.Ab.Tt
set_option maxRecDepth 100000
set_option linter.unusedVariables false
set_option linter.unusedSimpArgs false
theorem Hs{N:aj}(h:(fv N).2.2=0):∀k,k<N.runs.length→kc N.runs N.stops.length N.ao.length k=0:=by
 unfold fv at h;by_cases h1:(j7 N.stops).2=0
 ·rw[if_pos h1]at h;by_cases h2:(j8 N.ao).2=0
  ·rw[if_pos h2]at h;by_cases h3:(gh N.runs N.stops.length N.ao.length).2=0
   ·unfold gh at h3;by_cases As:N.runs.length>1024
    ·rw[if_pos As]at h3;cases h3
    ·rw[if_neg As]at h3;exact(kO _ _).1 h3
   ·rw[if_neg h3]at h;exact absurd h h3
  ·rw[if_neg h2]at h;exact absurd h h2
 ·rw[if_neg h1]at h;exact absurd h h1
theorem rB{N:aj}(h:(fv N).2.2=0):∀r∈N.runs,(bx r.calls N.stops.length 0 3155932800).2=0:=by
 intro r hr;obtain⟨k,hk,rfl⟩:=List.getElem_of_mem hr;have:=Hs h k hk;unfold kc at this;rw[List.getElem?_eq_getElem hk]at this;simp only at this;by_cases hc:(bx N.runs[k].calls N.stops.length 0 3155932800).2=0
 ·exact hc
 ·rw[if_neg hc]at this;split at this
  ·cases this
  ·split at this
   ·cases this
   ·split at this
    ·cases this
    ·split at this
     ·cases this
     ·exact absurd this hc
theorem rC{l:List an}{n a b:Int}(h:(bx l n a b).2=0):2≤l.length∧l.length≤32:=by
 unfold bx at h;by_cases hc:(decide ((l.length:Int)<2)||decide ((l.length:Int)>32))=true
 ·rw[if_pos hc]at h;cases h
 ·simp only[Bool.or_eq_true,decide_eq_true_eq,not_or]at hc;omega
theorem xb{l:List an}{n a b:Int}(h:(bx l n a b).2=0):∀k,k<l.length→lY l n a b k=0:=by
 unfold bx at h;by_cases hc:(decide ((l.length:Int)<2)||decide ((l.length:Int)>32))=true
 ·rw[if_pos hc]at h;cases h
 ·rw[if_neg hc]at h;exact(kO _ _).1 h
theorem nb{c:an}{p:Option an}{n a b:Int}(h:kB c p n a b=0):c.arr≤c.dep∧a≤c.arr∧c.dep≤b∧∀q,p=some q→q.dep≤c.arr:=by
 unfold kB at h;cases p with
 |none=>
  dsimp only at h;by_cases hA:(decide (c.stop<0)||decide (c.stop≥n))=true
  ·rw[if_pos hA]at h;cases h
  ·rw[if_neg hA,if_neg (by simp)]at h;by_cases hC:(decide (c.arr<a)||decide (c.arr>c.dep)||decide (c.dep>b)||false)=true
   ·rw[if_pos hC]at h;cases h
   ·simp only[Bool.or_eq_true,decide_eq_true_eq,not_or]at hC;exact⟨by omega,by omega,by omega,fun q hq=>by cases hq⟩
 |some r=>
  dsimp only at h;by_cases hA:(decide (c.stop<0)||decide (c.stop≥n))=true
  ·rw[if_pos hA]at h;cases h
  ·rw[if_neg hA]at h;by_cases hB:decide (r.stop=c.stop)=true
   ·rw[if_pos hB]at h;cases h
   ·rw[if_neg hB]at h;by_cases hC:(decide (c.arr<a)||decide (c.arr>c.dep)||decide (c.dep>b)||decide (c.arr<r.dep))=true
    ·rw[if_pos hC]at h;cases h
    ·simp only[Bool.or_eq_true,decide_eq_true_eq,not_or]at hC;exact⟨by omega,by omega,by omega,fun q hq=>by cases hq;omega⟩
end Go.Ab.Tt
namespace Go.Ab.Tt
set_option maxRecDepth 100000
set_option linter.unusedVariables false
set_option linter.unusedSimpArgs false
theorem Stop.peq(x y:Stop):cA [cell x.pv 0,cell x.pv 1,cell x.pv 2,cell x.pv 3] [cell y.pv 0,cell y.pv 1,cell y.pv 2,cell y.pv 3]=decide (x=y):=by cases x;cases y;rw[Bool.eq_iff_iff];simp[cell,Stop.pv,PV.cells,cA,Ab.peq]
theorem aW.peq(x y:aW):cA [cell x.pv 0,cell x.pv 1,cell x.pv 2] [cell y.pv 0,cell y.pv 1,cell y.pv 2]=decide (x=y):=by cases x;cases y;rw[Bool.eq_iff_iff];simp[cell,aW.pv,PV.cells,cA,Ab.peq]
theorem an.peq(x y:an):cA [cell x.pv 0,cell x.pv 1,cell x.pv 2,cell x.pv 3,cell x.pv 4] [cell y.pv 0,cell y.pv 1,cell y.pv 2,cell y.pv 3,cell y.pv 4]=decide (x=y):=by cases x;cases y;rw[Bool.eq_iff_iff];simp[cell,an.pv,PV.cells,cA,Ab.peq]
theorem aM.peq(x y:aM):cA [cell x.pv 0,cell x.pv 1,cell x.pv 2,cell x.pv 3,cell x.pv 4] [cell y.pv 0,cell y.pv 1,cell y.pv 2,cell y.pv 3,cell y.pv 4]=decide (x=y):=by cases x;cases y;rw[Bool.eq_iff_iff];simp[cell,aM.pv,PV.cells,cA,Ab.peq]
theorem Path.peq(x y:Path):cA [cell x.pv 0,cell x.pv 1,cell x.pv 2,cell x.pv 3] [cell y.pv 0,cell y.pv 1,cell y.pv 2,cell y.pv 3]=decide (x=y):=by cases x;cases y;rw[Bool.eq_iff_iff];simp[cell,Path.pv,PV.cells,cA,Ab.peq]
theorem bX.peq(x y:bX):cA [cell x.pv 0,cell x.pv 1,cell x.pv 2,cell x.pv 3,cell x.pv 4,cell x.pv 5] [cell y.pv 0,cell y.pv 1,cell y.pv 2,cell y.pv 3,cell y.pv 4,cell y.pv 5]=decide (x=y):=by cases x;cases y;rw[Bool.eq_iff_iff];simp[cell,bX.pv,PV.cells,cA,Ab.peq]
theorem pM{a b:Nat}:((a:Int) !=(b:Int))= !decide (a=b):=by rw[Bool.eq_iff_iff];simp;omega
theorem Ht{c:Prop}[Decidable c]:(if c then some (PV.bool true)else some (PV.bool false))=some (PV.bool (decide c)):=by by_cases h:c<;>simp[h]
theorem nu(a b:List an)(ha:a.length≤maxLen):bH [.rs 5 (a.map an.pv),.rs 5 (b.map an.pv)]=some (.bool (decide (a=b))):=by
 have hm:=c8;simp only[bH,gd,ae,if_true,U,List.length_map];by_cases h:a.length=b.length
 ·rw[if_neg (by rw[pM];simp[h])];refine(cG (fun k=>(a.map an.pv,b.map an.pv,(a.length:Int),(k:Int),())) a.length (fun k=>if a[k]?=b[k]? then none else some (some (PV.bool false))) (fun k hk rec=>?_) (fin:=some (PV.bool true)) (fun rec=>?_) (by have:=c9;omega) rfl).trans ?_
  ·have h1:decide ((k:Int)<(a.length:Int))=true:=by simp;omega
   have sx:k<b.length:=by omega
   unfold e9;dsimp only;try rw[List.length_map]
   rw[if_pos h1,aV,aV,List.getElem?_map,List.getElem?_map,List.getElem?_eq_getElem hk,List.getElem?_eq_getElem sx];simp only[Option.map_some,U];rw[if_pos ⟨rfl,rfl⟩,an.peq,aI (by omega)];by_cases he:a[k]=b[k]
   ·simp[he,eP]
   ·simp[he,eP]
  ·unfold e9;dsimp only;rw[if_neg (by simp)]
  ·exact(xN a b h (some (PV.bool false)) (some (PV.bool true))).trans Ht
 ·rw[if_pos (by rw[pM];simp[h])];have:a≠b:=fun e=>h (by rw[e]);simp[this]
theorem CR(a b:List an)(ha:a.length≤maxLen):fk [.rs 5 (a.map an.pv),.rs 5 (b.map an.pv)]=some (.bool (decide (a=b))):=by
 have hm:=c8;simp only[fk,lN,ae,if_true,U,List.length_map];by_cases h:a.length=b.length
 ·rw[if_neg (by rw[pM];simp[h])];refine(cG (fun k=>(a.map an.pv,b.map an.pv,(k:Int),())) a.length (fun k=>if a[k]?=b[k]? then none else some (some (PV.bool false))) (fun k hk rec=>?_) (fin:=some (PV.bool true)) (fun rec=>?_) (by have:=c9;omega) rfl).trans ?_
  ·have h1:decide ((k:Int)<(a.length:Int))=true:=by simp;omega
   have sx:k<b.length:=by omega
   unfold jr;dsimp only;try rw[List.length_map]
   rw[if_pos h1,aV,aV,List.getElem?_map,List.getElem?_map,List.getElem?_eq_getElem hk,List.getElem?_eq_getElem sx];simp only[Option.map_some,U];rw[if_pos ⟨rfl,rfl⟩,an.peq,aI (by omega)];by_cases he:a[k]=b[k]
   ·simp[he,eP]
   ·simp[he,eP]
  ·unfold jr;dsimp only;rw[if_neg (by simp)]
  ·exact(xN a b h (some (PV.bool false)) (some (PV.bool true))).trans Ht
 ·rw[if_pos (by rw[pM];simp[h])];have:a≠b:=fun e=>h (by rw[e]);simp[this]
theorem Jz(x y:cz):decide (x=y)=(decide (x.dA=y.dA)&&decide (x.day=y.day)&&decide (x.inst=y.inst)&&decide (x.id=y.id)&&decide (x.bd=y.bd)&&decide (x.free=y.free)&&decide (x.pJ=y.pJ)&&decide (x.calls=y.calls)):=by cases x;cases y;rw[Bool.eq_iff_iff];simp[and_assoc]
theorem EB(a b:List cz)(ha:a.length≤maxLen)(hc:∀x∈a,x.calls.length≤maxLen):fM [.rs 8 (a.map cz.pv),.rs 8 (b.map cz.pv)]=some (.bool (decide (a=b))):=by
 have hm:=c8;simp only[fM,mW,ae,if_true,U,List.length_map];by_cases h:a.length=b.length
 ·rw[if_neg (by rw[pM];simp[h])];refine(cG (fun k=>(a.map cz.pv,b.map cz.pv,(k:Int),())) a.length (fun k=>if a[k]?=b[k]? then none else some (some (PV.bool false))) (fun k hk rec=>?_) (fin:=some (PV.bool true)) (fun rec=>?_) (by have:=c9;omega) rfl).trans ?_
  ·have h1:decide ((k:Int)<(a.length:Int))=true:=by simp;omega
   have sx:k<b.length:=by omega
   have gI:=CR a[k].calls b[k].calls (hc _ (List.getElem_mem hk));unfold kg;dsimp only;rw[List.length_map,if_pos h1,aV,aV,List.getElem?_map,List.getElem?_map,List.getElem?_eq_getElem hk,List.getElem?_eq_getElem sx];simp only[Option.map_some,U,TN,QC,QD,QE,TO,WL,WM,He,asInt,dh,asBool,ae,if_true,gI,cC,sV,j6,aI (show k<9223372036854775807 by omega)];have hd:=Jz a[k] b[k];by_cases he:a[k]=b[k]
   ·simp[he,eP]
   ·rw[if_pos,if_neg (by simpa using he)]
    ·rfl
    ·rw[decide_eq_false he]at hd;revert hd;generalize decide (a[k].dA=b[k].dA)=x1;generalize decide (a[k].day=b[k].day)=x2;generalize decide (a[k].inst=b[k].inst)=x3;generalize decide (a[k].id=b[k].id)=x4;generalize decide (a[k].bd=b[k].bd)=x5;generalize decide (a[k].free=b[k].free)=x6;generalize decide (a[k].pJ=b[k].pJ)=x7;generalize decide (a[k].calls=b[k].calls)=x8;revert x1 x2 x3 x4 x5 x6 x7 x8;decide
  ·unfold kg;dsimp only;rw[if_neg (by simp)]
  ·exact(xN a b h (some (PV.bool false)) (some (PV.bool true))).trans Ht
 ·rw[if_pos (by rw[pM];simp[h])];have:a≠b:=fun e=>h (by rw[e]);simp[this]
end Go.Ab.Tt
namespace Go.Ab.Tt
set_option maxRecDepth 100000
set_option linter.unusedVariables false
set_option linter.unusedSimpArgs false
theorem bR(es:List PV)(n:Nat)(h:es.length≤1000)(hn:0<n)(hn2:n≤1000):(([]:List PV)++es).length*n≤aa∧0<n:=by refine⟨?_,hn⟩;rw[List.nil_append];have:es.length*n≤1000*1000:=Nat.mul_le_mul h hn2;unfold aa;omega
theorem js(es:List PV):List.take (((([]:List PV)++es).length:Int).toNat) (([]:List PV)++es)=es:=by simp
theorem zK(es:List PV)(h:es.length≤1000):bU [.rs 4 es]=some (.rs 4 es):=by simp only[bU,jq,ae,if_true,U];rw[if_pos (bR es 40 h (by decide) (by decide)),if_pos ⟨by omega,by omega,by omega,trivial⟩,js]
theorem xc(es:List PV)(h:es.length≤1000):bI [.rs 3 es]=some (.rs 3 es):=by simp only[bI,iG,ae,if_true,U];rw[if_pos (bR es 32 h (by decide) (by decide)),if_pos ⟨by omega,by omega,by omega,trivial⟩,js]
theorem BE(es:List PV)(h:es.length≤1000):cr [.rs 8 es]=some (.rs 8 es):=by simp only[cr,j3,ae,if_true,U];rw[if_pos (bR es 80 h (by decide) (by decide)),if_pos ⟨by omega,by omega,by omega,trivial⟩,js]
theorem zL(es:List PV)(h:es.length≤1000):bV [.rs 5 es]=some (.rs 5 es):=by simp only[bV,jo,ae,if_true,U];rw[if_pos (bR es 40 h (by decide) (by decide)),if_pos ⟨by omega,by omega,by omega,trivial⟩,js]
theorem rD(es:List PV)(h:es.length≤1000):bm [.rs 4 es]=some (.rs 4 es):=by simp only[bm,gf,ae,if_true,U];rw[if_pos (bR es 32 h (by decide) (by decide)),if_pos ⟨by omega,by omega,by omega,trivial⟩,js]
theorem zM(es:List PV)(h:es.length≤1000):bW [.rs 5 es]=some (.rs 5 es):=by simp only[bW,jk,ae,if_true,U];rw[if_pos (bR es 32 h (by decide) (by decide)),if_pos ⟨by omega,by omega,by omega,trivial⟩,js]
theorem sY(es:List PV)(h:es.length≤1000):bB [.rs 6 es]=some (.rs 6 es):=by simp only[bB,gx,ae,if_true,U];rw[if_pos (bR es 56 h (by decide) (by decide)),if_pos ⟨by omega,by omega,by omega,trivial⟩,js]
variable{A:Type}
def mix(f g:A→PV)(l:List A)(k:Nat):List PV:=(l.take k).map f++(l.drop k).map g
theorem EC(f g:A→PV)(l:List A):mix f g l 0=l.map g:=by simp[mix]
theorem CS(f g:A→PV)(l:List A):mix f g l l.length=l.map f:=by simp[mix]
theorem JA(f g:A→PV)(l:List A)(k:Nat):(mix f g l k).length=l.length:=by simp[mix];omega
theorem JB(f g:A→PV)(l:List A)(k:Nat)(h:k<l.length):(mix f g l k)[k]?=some (g l[k]):=by unfold mix;rw[List.getElem?_append_right (by simp;omega)];simp only[List.length_map,List.length_take,Nat.min_eq_left (Nat.le_of_lt h),Nat.sub_self,List.getElem?_map,List.getElem?_drop,Nat.add_zero,List.getElem?_eq_getElem h,Option.map_some]
theorem JC(f g:A→PV)(l:List A)(k:Nat)(h:k<l.length):(mix f g l k).set k (f l[k])=mix f g l (k+1):=by
 apply List.ext_getElem?;intro j;rw[List.getElem?_set];unfold mix;by_cases hj:k=j
 ·subst hj;rw[if_pos rfl,if_pos (by simp;omega),List.getElem?_append_left (by simp;omega)];simp[h]
 ·rw[if_neg hj];by_cases ba:j<k
  ·rw[List.getElem?_append_left (by simp;omega),List.getElem?_append_left (by simp;omega)];simp[ba,Nat.lt_succ_of_lt ba]
  ·rw[List.getElem?_append_right (by simp;omega),List.getElem?_append_right (by simp;omega)];simp only[List.length_map,List.length_take,List.getElem?_map,List.getElem?_drop];congr 2;omega
theorem dX(f g:A→PV)(l:List A)(k:Nat)(h:k<l.length)(p:PV):((mix f g l k).set k p)[k]?=some p:=by rw[List.getElem?_set,if_pos rfl,if_pos (by rw[JA];exact h)]
theorem CT(f g:A→PV)(l:List A)(k:Nat)(h:k<l.length):ag (k:Int) (mix f g l k).length:=by rw[JA];exact⟨by omega,by omega⟩
def cz.nj(x:cz):PV:=.agg [.int .i64 x.dA,.int .i64 x.day,.int .i64 x.inst,.str x.id,.int .i64 x.bd,.bool x.free,.bool x.pJ,.gC 5 (x.calls.map an.pv)]
theorem jt(l:List cz):(l.map cz.nj).map PV.strip=l.map cz.pv:=by rw[List.map_map];rfl
end Go.Ab.Tt
