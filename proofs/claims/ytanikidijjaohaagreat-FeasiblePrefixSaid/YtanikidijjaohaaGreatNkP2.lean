import Derived.Test.YtanikidijjaohaaGreatNkP1
import Derived.Test.YtanikidijjaohaaGreatNwP2
namespace Go.Ab.Tt
set_option maxRecDepth 100000
set_option linter.unusedVariables false
set_option linter.unusedSimpArgs false
def bQ(x:Path):Int×Int×Bool:=(x.a,x.b,x.free)
def Bd(x:Int×Int×Bool):PV:=.agg [.int .i64 x.1,.int .i64 x.2.1,.bool x.2.2]
theorem KA(a b:Int×Int×Bool):dK (Bd a).cells (Bd b).cells=decide (a=b):=by obtain⟨a1,a2,a3⟩:=a;obtain⟨b1,b2,b3⟩:=b;rw[Bool.eq_iff_iff];simp[Bd,PV.cells,dK,peq]
def dg(l:List Path)(n:Int)(k:Nat):Int:=match l[k]? with
 |none=>0
 |some x=>if(decide (x.a<0)||decide (x.a≥n)||decide (x.b<0)||decide (x.b≥n)||decide (x.a=x.b))=true then 9 else if(decide (x.fa<1)||decide (x.fa>14400))=true then 2 else if bQ x∈(l.map bQ).take k then 6 else 0
theorem OP(l:List Path)(n:Int)(hl:l.length≤maxLen):iB [.rs 4 (l.map Path.pv),.int .i64 n]=some (res (bN (dg l n) l.length).1 (bN (dg l n) l.length).2):=by
 have hm:=aY;simp only[iB,qN,aa,asInt,if_true,U,List.length_map];rw[←oI];refine bL (fun k=>(n,l.map Path.pv,(l.length:Int),(k:Int),seen Bd ((l.map bQ).take k),())) l.length _ (fun k hk rec=>?_) (fun rec=>?_) ?_ rfl
 ·have h1:(k:Int)<(l.length:Int):=by omega
  have su:eS (.agg [.int .i64 l[k].a,.int .i64 l[k].b,.bool l[k].free]) (.bool true) (seen Bd ((l.map bQ).take k))=_:=oJ KA (bQ l[k]) ((l.map bQ).take k);have tF:dH (.agg [.int .i64 l[k].a,.int .i64 l[k].b,.bool l[k].free]) (.bool false) (seen Bd ((l.map bQ).take k))=_:=lY KA (bQ l[k]) ((l.map bQ).take k);simp only[mP,decide_eq_true_eq,h1,if_true,aQ,List.getElem?_map,List.getElem?_eq_getElem hk,Option.map_some,U,Ev,Ew,GM,Ey,asInt,asBool,su,tF,ga,ai (show k<9223372036854775807 by omega),rj bQ l k hk];unfold dg;rw[List.getElem?_eq_getElem hk];simp only;by_cases bJ:bQ l[k]∈(l.map bQ).take k
  ·simp only[bJ,if_true];by_cases e1:l[k].a<0<;>by_cases e2:l[k].a≥n<;>by_cases e3:l[k].b<0<;>by_cases e4:l[k].b≥n<;>by_cases e5:l[k].a=l[k].b<;>by_cases e6:l[k].fa<1<;>by_cases e7:l[k].fa>14400<;>simp only[e1,e2,e3,e4,e5,e6,e7,decide_true,decide_false,Bool.or_true,Bool.true_or,Bool.or_false,if_true,if_false,Bool.false_eq_true]<;>rfl
  ·simp only[bJ,if_false,Bool.false_eq_true];by_cases e1:l[k].a<0<;>by_cases e2:l[k].a≥n<;>by_cases e3:l[k].b<0<;>by_cases e4:l[k].b≥n<;>by_cases e5:l[k].a=l[k].b<;>by_cases e6:l[k].fa<1<;>by_cases e7:l[k].fa>14400<;>simp only[e1,e2,e3,e4,e5,e6,e7,decide_true,decide_false,Bool.or_true,Bool.true_or,Bool.or_false,if_true,if_false,Bool.false_eq_true]<;>rfl
 ·simp only[mP,decide_eq_true_eq,Int.lt_irrefl,if_false];rfl
 ·have:=bf;omega
def toFp(p:Path):Nw.Fp:=⟨p.a.toNat,p.b.toNat,p.fa.toNat,p.free⟩
def Sound(l:List Path)(n:Nat):Prop:=∀p∈l,0≤p.a∧p.a<n∧0≤p.b∧p.b<n∧1≤p.fa∧p.fa≤14400
variable{l:List Path}{n:Nat}
theorem KB(h:(bN (dg l n) l.length).2=0):Sound l n:=by
 intro p hp;obtain⟨k,hk,rfl⟩:=List.getElem_of_mem hp;have h0:=(nJ _ _).1 h k hk;unfold dg at h0;rw[List.getElem?_eq_getElem hk]at h0;simp only at h0;by_cases c1:(decide (l[k].a<0)||decide (l[k].a≥n)||decide (l[k].b<0)||decide (l[k].b≥n)||decide (l[k].a=l[k].b))=true
 ·rw[if_pos c1]at h0;omega
 ·rw[if_neg c1]at h0;by_cases c2:(decide (l[k].fa<1)||decide (l[k].fa>14400))=true
  ·rw[if_pos c2]at h0;omega
  ·simp only[Bool.or_eq_true,decide_eq_true_eq]at c1 c2;omega
theorem toFp_pv{p:Path}(h1:0≤p.a)(h2:0≤p.b)(h3:1≤p.fa):(toFp p).pv=p.pv:=by simp only[toFp,Nw.Fp.pv,Path.pv];rw[Int.toNat_of_nonneg h1,Int.toNat_of_nonneg h2,Int.toNat_of_nonneg (by omega)]
theorem VO(h:Sound l n):(l.map toFp).map Nw.Fp.pv=l.map Path.pv:=by rw[List.map_map];apply List.map_congr_left;intro p hp;exact toFp_pv (h p hp).1 (h p hp).2.2.1 (h p hp).2.2.2.2.1
def QY(e:List PV):Path:=match e with|[.int .i64 a,.int .i64 b,.int .i64 s,.bool f]=>⟨a,b,s,f⟩|_=>⟨0,0,0,false⟩
theorem ET:∀(L:List (List PV)),(∀e∈L,Nw.IsF e)→eB L=(L.map QY).map Path.pv
 |[],_=>rfl
 |e::L,h=>by obtain⟨i,k,s,b,rfl⟩:=h e (by simp);have:=ET L fun x hx=>h x (by simp[hx]);unfold eB at this⊢;rw[List.map_cons,List.map_cons,List.map_cons,this];rfl
def jm(l:List Path)(n:Nat):List Path:=(Nw.FB n (Nw.rO n (l.map toFp) false) (Nw.rO n (l.map toFp) true)).map QY
theorem GZ(hn:n≤64)(hl:l.length≤4096)(h:Sound l n):eA [.rs 4 (l.map Path.pv),.int .i64 n]=some (.rs 4 ((jm l n).map Path.pv))∧fQ [.rs 4 (l.map Path.pv),.int .i64 n]=some (.rs 4 ((jm l n).map Path.pv)):=by have:=Nw.OQ (l.map toFp) n hn (by simpa using hl) (fun p hp=>by obtain⟨q,hq,rfl⟩:=List.mem_map.1 hp;have:=h q hq;simp only[toFp];omega);rw[VO h,ET _ (Nw.KC n _ _)]at this;exact this
theorem KD(l:List Path)(n:Nat)(hn:n≤64):(jm l n).length≤8192:=by
 have h1:(jm l n).length=(eB (Nw.FB n (Nw.rO n (l.map toFp) false) (Nw.rO n (l.map toFp) true))).length:=by simp[jm,eB]
 rw[h1,Nw.Be];have h2:=Nw.zS (it:=fun i k=>Nw.Cw (Nw.rO n (l.map toFp) false i k) (Nw.rO n (l.map toFp) true i k) i k) (fun i k=>Nw.Ii _ _ i k) n n;have h3:2*n*n≤2*64*64:=Nat.mul_le_mul (Nat.mul_le_mul_left 2 hn) hn;omega
theorem KE(x y:Path):dK [cell x.pv 0,cell x.pv 1,cell x.pv 2,cell x.pv 3] [cell y.pv 0,cell y.pv 1,cell y.pv 2,cell y.pv 3]=decide (x=y):=by rw[Bool.eq_iff_iff];obtain⟨a,b,c,d⟩:=x;obtain⟨a',b',c',d'⟩:=y;simp[Ev,Ew,GM,Ey,dK,peq]
theorem zT(x:Path):lD (Kd.int IntKind.i64::[].append (Kd.int IntKind.i64::[].append (Kd.int IntKind.i64::[].append (Kd.bool::[].append [])))) [cell x.pv 0,cell x.pv 1,cell x.pv 2,cell x.pv 3]=true:=rfl
def mQ(l:List Path)(n:Nat):Bool:=decide (jm l n=l)
theorem KF(hn:n≤64)(hl:l.length≤4096)(h:(bN (dg l n) l.length).2=0):fi [.rs 4 (l.map Path.pv),.int .i64 n]=some (.bool (mQ l n)):=by
 have hm:4096≤maxLen:=by decide
 have hs:=OP l n (by omega);have hf:=SK _ _ h;rw[h,hf]at hs;have hc:=(GZ hn hl (KB h)).1;have sP:=KD l n hn;have xl:¬decide ((n:Int)>64)=true:=by simp;omega
 have h0:¬(0:Int)>(n:Int):=by omega
 simp only[fi,mC,aa,asInt,if_true,U];rw[if_neg xl,hs];simp only[res,cP,List.length_cons,List.length_nil,Nat.reduceAdd,if_true,U,List.getD_cons_zero,List.getD_cons_succ,asInt,if_neg h0,hc,aa,List.length_map];rw[if_neg (by decide)];unfold mQ;by_cases hlen:(jm l n).length=l.length
 ·rw[if_neg (by simp[pD,hlen])];have hr:=QX (jm l n) l hlen (some (PV.bool false)) (some (PV.bool true));have:some (PV.bool (decide (jm l n=l)))=if jm l n=l then some (PV.bool true)else some (PV.bool false):=by by_cases hc:jm l n=l<;>simp[hc]
  rw[this,←hr];refine bL (fun k=>(l.map Path.pv,(jm l n).map Path.pv,((jm l n).length:Int),(k:Int),())) (jm l n).length _ (fun k hk rec=>?_) (fun rec=>?_) ?_ rfl
  ·have h1:decide ((k:Int)<((jm l n).length:Int))=true:=by simp;omega
   have qz:k<l.length:=by omega
   unfold ko;dsimp only;rw[if_pos h1,aQ,List.getElem?_map,List.getElem?_eq_getElem hk,aQ,List.getElem?_map,List.getElem?_eq_getElem qz];simp only[Option.map_some,U];rw[if_pos ⟨zT _,zT _⟩,KE,ai (by omega)];by_cases he:(jm l n)[k]=l[k]
   ·simp[he,gb]
   ·simp[he,gb]
  ·unfold ko;dsimp only;rw[if_neg (by simp)]
  ·have:=bf;omega
 ·rw[if_pos (by simp[pD];omega)];rw[decide_eq_false (fun hc=>hlen (by rw[hc]))]
def cT(l:List Path)(n:Nat):Int×Int:=if(bN (dg l n) l.length).2=0 then(if mQ l n=true then(0,0)else(0,18))else bN (dg l n) l.length
def sM(x:Int×Int×Bool):PV:=.agg [.int .i64 x.1,.int .i64 x.2.1,.int .i64 0,.bool x.2.2]
theorem acq(a b:Int×Int×Bool):dK (sM a).cells (sM b).cells=decide (a=b):=by obtain⟨a1,a2,a3⟩:=a;obtain⟨b1,b2,b3⟩:=b;rw[Bool.eq_iff_iff];simp[sM,PV.cells,dK,peq]
theorem B8(N:ag)(l:List Path)(n:Nat)(hl:l.length≤4096)(hlen:(N.stops.map Stop.pv).length=n)(k:Nat)(hk:k<l.length)(rec:SL→Option PV):cK (l.map Path.pv,(l.length:Int),(k:Int),N.stops.map Stop.pv,N.au.map aG.pv,N.runs.map dS.pv,N.aJ.map bg.pv,l.map Path.pv,N.aR.map aH.pv,N.bu,N.within,N.cap,0,0,0,seen sM ((l.map bQ).take k),()) rec=gb (if dg l n k=0 then none else some (some (r3 4 k (dg l n k)))) (rec (l.map Path.pv,(l.length:Int),((k+1:Nat):Int),N.stops.map Stop.pv,N.au.map aG.pv,N.runs.map dS.pv,N.aJ.map bg.pv,l.map Path.pv,N.aR.map aH.pv,N.bu,N.within,N.cap,0,0,0,seen sM ((l.map bQ).take (k+1)),())):=by
 have h1:decide ((k:Int)<(l.length:Int))=true:=by simp;omega
 have su:eS (.agg [.int .i64 l[k].a,.int .i64 l[k].b,.int .i64 0,.bool l[k].free]) (.bool true) (seen sM ((l.map bQ).take k))=_:=oJ acq (bQ l[k]) ((l.map bQ).take k);have tF:dH (.agg [.int .i64 l[k].a,.int .i64 l[k].b,.int .i64 0,.bool l[k].free]) (.bool false) (seen sM ((l.map bQ).take k))=_:=lY acq (bQ l[k]) ((l.map bQ).take k);unfold cK;dsimp only;rw[if_pos h1,aQ,List.getElem?_map,List.getElem?_eq_getElem hk,hlen];simp only[Option.map_some,U,Ev,Ew,GM,Ey,asInt,asBool,if_true,yR,aW,ga,su,tF,ES,QW,sL,rI,zR,rj bQ l k hk,ai (show k<9223372036854775807 by omega)];have hA:(!(decide (l[k].a≥0)&&decide (l[k].a<(n:Int)))|| !(decide (l[k].b≥0)&&decide (l[k].b<(n:Int)))||decide (l[k].a=l[k].b))=(decide (l[k].a<0)||decide (l[k].a≥(n:Int))||decide (l[k].b<0)||decide (l[k].b≥(n:Int))||decide (l[k].a=l[k].b)):=by rw[Bool.eq_iff_iff];simp only[Bool.or_eq_true,Bool.not_eq_true',Bool.and_eq_false_iff,decide_eq_true_eq,decide_eq_false_iff_not];omega
 rw[hA];unfold dg;rw[List.getElem?_eq_getElem hk];simp only;generalize (decide (l[k].a<0)||decide (l[k].a≥(n:Int))||decide (l[k].b<0)||decide (l[k].b≥(n:Int))||decide (l[k].a=l[k].b))=A;generalize (decide (l[k].fa<1)||decide (l[k].fa>14400))=B;by_cases bJ:bQ l[k]∈(l.map bQ).take k
 ·simp only[bJ,if_true];cases A<;>cases B<;>rfl
 ·simp only[bJ,if_false];cases A<;>cases B<;>rfl
theorem FC(N:ag)(hn:N.stops.length≤64)(hl:N.paths.length≤4096):cu [N.pv]=some (prt 4 (cT N.paths N.stops.length)):=by
 have hm:4096≤maxLen:=by decide
 simp only[cu,lJ,gL,gM,gN,gO,gP,gQ,gR,gS,gT,gU,U,List.length_map];generalize LH:N.paths=l at hl⊢;generalize RB:N.stops.length=n at hn⊢;have hlen:(N.stops.map Stop.pv).length=n:=by simpa using RB
 have hg:=js (dg l n) l.length (fun i e=>r3 4 i e) (some (if mQ l n=true then r3 0 0 0 else r3 4 0 18));have hR:some (prt 4 (cT l n))=if(bN (dg l n) l.length).2=0 then some (if mQ l n=true then r3 0 0 0 else r3 4 0 18)else some (r3 4 (bN (dg l n) l.length).1 (bN (dg l n) l.length).2):=by
  unfold cT prt;by_cases h:(bN (dg l n) l.length).2=0
  ·rw[if_pos h,if_pos h];cases mQ l n<;>rfl
  ·rw[if_neg h,if_neg h,if_neg h]
 rw[hR,←hg];by_cases hz:(bN (dg l n) l.length).2=0
 ·refine bL (fun k=>(l.map Path.pv,(l.length:Int),(k:Int),N.stops.map Stop.pv,N.au.map aG.pv,N.runs.map dS.pv,N.aJ.map bg.pv,l.map Path.pv,N.aR.map aH.pv,N.bu,N.within,N.cap,0,0,0,seen sM ((l.map bQ).take k),())) l.length _ (fun k hk rec=>B8 N l n hl hlen k hk rec) (fun rec=>?_) ?_ rfl
  ·unfold cK;dsimp only;rw[if_neg (by simp),hlen,KF hn hl hz];simp only[U,asBool,ES,QW,sL,rI,zR];cases mQ l n<;>rfl
  ·have:=bf;omega
 ·have oQ:=bL (body:=cK) (fun k=>(l.map Path.pv,(l.length:Int),(k:Int),N.stops.map Stop.pv,N.au.map aG.pv,N.runs.map dS.pv,N.aJ.map bg.pv,l.map Path.pv,N.aR.map aH.pv,N.bu,N.within,N.cap,0,0,0,seen sM ((l.map bQ).take k),())) l.length _ (fin:=cK (l.map Path.pv,(l.length:Int),(l.length:Int),N.stops.map Stop.pv,N.au.map aG.pv,N.runs.map dS.pv,N.aJ.map bg.pv,l.map Path.pv,N.aR.map aH.pv,N.bu,N.within,N.cap,0,0,0,seen sM ((l.map bQ).take l.length),()) fun _=>none) (fun k hk rec=>B8 N l n hl hlen k hk rec) (fun rec=>?_) (by have:=bf;omega) (s0:=(l.map Path.pv,(l.length:Int),0,N.stops.map Stop.pv,N.au.map aG.pv,N.runs.map dS.pv,N.aJ.map bg.pv,l.map Path.pv,N.aR.map aH.pv,N.bu,N.within,N.cap,0,0,0,[],())) rfl
  ·rw[oQ,js,js,if_neg hz,if_neg hz]
  ·unfold cK;dsimp only;rw[if_neg (by simp),if_neg (by simp)]
end Go.Ab.Tt
namespace Go.Ab.Tt
set_option maxRecDepth 100000
set_option linter.unusedVariables false
set_option linter.unusedSimpArgs false
theorem Ij(N:ag)(l:List Path)(hl:l.length≤4096)(i:Nat)(hi:i<l.length)(fD:KG→Option PV):bC.run (mR fD) ((i:Int),0,N.stops.map Stop.pv,N.au.map aG.pv,N.runs.map dS.pv,N.aJ.map bg.pv,l.map Path.pv,N.aR.map aH.pv,N.bu,N.within,N.cap,.int .i64 l[i].a,.int .i64 l[i].b,.int .i64 l[i].fa,.bool l[i].free,())=if bQ l[i]∈(l.map bQ).take i then some (res i 6)else fD (IntKind.i64.wrap ((i:Int)+1),N.stops.map Stop.pv,N.au.map aG.pv,N.runs.map dS.pv,N.aJ.map bg.pv,l.map Path.pv,N.aR.map aH.pv,N.bu,N.within,N.cap,()):=by
 have hm:4096≤maxLen:=by decide
 refine(tG (fun k=>((i:Int),(k:Int),N.stops.map Stop.pv,N.au.map aG.pv,N.runs.map dS.pv,N.aJ.map bg.pv,l.map Path.pv,N.aR.map aH.pv,N.bu,N.within,N.cap,PV.int .i64 l[i].a,PV.int .i64 l[i].b,PV.int .i64 l[i].fa,PV.bool l[i].free,())) i (fun k=>decide ((l.map bQ)[k]?=some (bQ l[i]))) (no:=some (res i 6)) (fin:=fD (IntKind.i64.wrap ((i:Int)+1),N.stops.map Stop.pv,N.au.map aG.pv,N.runs.map dS.pv,N.aJ.map bg.pv,l.map Path.pv,N.aR.map aH.pv,N.bu,N.within,N.cap,())) (fun k hk rec=>?_) (fun rec=>?_) ?_ rfl).trans ?_
 ·have h1:decide ((k:Int)<(i:Int))=true:=by simp;omega
  have qz:k<l.length:=by omega
  have hd:decide ((l.map bQ)[k]?=some (bQ l[i]))=(decide (l[k].a=l[i].a)&&decide (l[k].b=l[i].b)&&decide (l[k].free=l[i].free)):=by rw[Bool.eq_iff_iff];simp[List.getElem?_eq_getElem qz,bQ,and_assoc]
  rw[hd];unfold mR;dsimp only;rw[if_pos h1,aQ,List.getElem?_map,List.getElem?_eq_getElem qz];simp only[Option.map_some,U,Ev,Ew,Ey,asInt,asBool,if_true,ai (show k<9223372036854775807 by omega),ga,aZ];rfl
 ·unfold mR;dsimp only;rw[if_neg (by simp)]
 ·have:=bf;omega
 ·rw[CO _ _ (by simp;omega)];simp only[decide_eq_true_eq]
theorem SM(N:ag)(hn:N.stops.length≤64)(hl:N.paths.length≤4096):lh [N.pv]=some (res (cT N.paths N.stops.length).1 (cT N.paths N.stops.length).2):=by
 have hm:4096≤maxLen:=by decide
 simp only[lh,v7,gL,gM,gN,gO,gP,gQ,gR,gS,gT,gU,U];generalize LH:N.paths=l at hl⊢;generalize RB:N.stops.length=n at hn⊢;have hlen:(N.stops.map Stop.pv).length=n:=by simpa using RB
 have hw:IntKind.i64.wrap ((n:Int)-1)=(n:Int)-1:=bF (by omega) (by omega);have VP:∀k,(hk:k<l.length)→∀rec,fR bC ((k:Int),N.stops.map Stop.pv,N.au.map aG.pv,N.runs.map dS.pv,N.aJ.map bg.pv,l.map Path.pv,N.aR.map aH.pv,N.bu,N.within,N.cap,()) rec=gb (if dg l n k=0 then none else some (some (res k (dg l n k)))) (rec (((k+1:Nat):Int),N.stops.map Stop.pv,N.au.map aG.pv,N.runs.map dS.pv,N.aJ.map bg.pv,l.map Path.pv,N.aR.map aH.pv,N.bu,N.within,N.cap,())):=by
  intro k hk rec;have h1:decide ((k:Int)<((l.map Path.pv).length:Int))=true:=by simp;omega
  have ow:=Ij N l hl k hk rec;unfold fR;dsimp only;rw[if_pos h1,aQ,List.getElem?_map,List.getElem?_eq_getElem hk,hlen,hw];simp only[Option.map_some,U,Ev,Ew,GM,Ey,asInt,asBool,if_true,EP,aW,ga,ow,ai (show k<9223372036854775807 by omega)];have hA:(!(decide (l[k].a≥0)&&decide (l[k].a≤(n:Int)-1))|| !(decide (l[k].b≥0)&&decide (l[k].b≤(n:Int)-1))||decide (l[k].a=l[k].b))=(decide (l[k].a<0)||decide (l[k].a≥(n:Int))||decide (l[k].b<0)||decide (l[k].b≥(n:Int))||decide (l[k].a=l[k].b)):=by rw[Bool.eq_iff_iff];simp only[Bool.or_eq_true,Bool.not_eq_true',Bool.and_eq_false_iff,decide_eq_true_eq,decide_eq_false_iff_not];omega
  have hB:(!(decide (l[k].fa≥1)&&decide (l[k].fa≤14400)))=(decide (l[k].fa<1)||decide (l[k].fa>14400)):=by rw[Bool.eq_iff_iff];simp only[Bool.or_eq_true,Bool.not_eq_true',Bool.and_eq_false_iff,decide_eq_true_eq,decide_eq_false_iff_not];omega
  rw[hA,hB];unfold dg;rw[List.getElem?_eq_getElem hk];simp only;generalize (decide (l[k].a<0)||decide (l[k].a≥(n:Int))||decide (l[k].b<0)||decide (l[k].b≥(n:Int))||decide (l[k].a=l[k].b))=A;generalize (decide (l[k].fa<1)||decide (l[k].fa>14400))=B;by_cases bJ:bQ l[k]∈(l.map bQ).take k
  ·simp only[bJ,if_true];cases A<;>cases B<;>rfl
  ·simp only[bJ,if_false];cases A<;>cases B<;>rfl
 have hg:=js (dg l n) l.length (fun i e=>res i e) (some (if mQ l n=true then res 0 0 else res 0 18));have hR:some (res (cT l n).1 (cT l n).2)=if(bN (dg l n) l.length).2=0 then some (if mQ l n=true then res 0 0 else res 0 18)else some (res (bN (dg l n) l.length).1 (bN (dg l n) l.length).2):=by
  unfold cT;by_cases h:(bN (dg l n) l.length).2=0
  ·rw[if_pos h,if_pos h];cases mQ l n<;>rfl
  ·rw[if_neg h,if_neg h]
 rw[hR,←hg];by_cases hz:(bN (dg l n) l.length).2=0
 ·refine bL (fun k=>((k:Int),N.stops.map Stop.pv,N.au.map aG.pv,N.runs.map dS.pv,N.aJ.map bg.pv,l.map Path.pv,N.aR.map aH.pv,N.bu,N.within,N.cap,())) l.length _ VP (fun rec=>?_) ?_ rfl
  ·have hc:=(GZ hn hl (KB hz)).2;have sP:=KD l n hn;unfold fR;dsimp only;rw[if_neg (by simp),hlen,hc];simp only[U,aa,if_true,List.length_map];unfold mQ;by_cases VQ:(jm l n).length=l.length
   ·rw[if_neg (by simp[pD,VQ])];have hr:=QX (jm l n) l VQ (some (res 0 18)) (some (res 0 0));have:some (if decide (jm l n=l)=true then res 0 0 else res 0 18)=if jm l n=l then some (res 0 0)else some (res 0 18):=by by_cases hc:jm l n=l<;>simp[hc]
    rw[this,←hr];refine bL (fun k=>((jm l n).map Path.pv,(k:Int),N.stops.map Stop.pv,N.au.map aG.pv,N.runs.map dS.pv,N.aJ.map bg.pv,l.map Path.pv,N.aR.map aH.pv,N.bu,N.within,N.cap,())) (jm l n).length _ (fun k hk rec=>?_) (fun rec=>?_) ?_ rfl
    ·have h1:decide ((k:Int)<(((jm l n).map Path.pv).length:Int))=true:=by simp;omega
     have qz:k<l.length:=by omega
     unfold rz;dsimp only;rw[if_pos h1,aQ,List.getElem?_map,List.getElem?_eq_getElem hk,aQ,List.getElem?_map,List.getElem?_eq_getElem qz];simp only[Option.map_some,U];rw[if_pos ⟨zT _,zT _⟩,KE,ai (by omega)];by_cases he:(jm l n)[k]=l[k]
     ·simp[he,gb]
     ·simp[he,gb,res]
    ·unfold rz;dsimp only;rw[if_neg (by simp)];rfl
    ·have:=bf;omega
   ·rw[if_pos (by simp[pD];omega)];rw[decide_eq_false (fun hc=>VQ (by rw[hc]))];rfl
  ·have:=bf;omega
 ·have oQ:=bL (body:=fR bC) (fun k=>((k:Int),N.stops.map Stop.pv,N.au.map aG.pv,N.runs.map dS.pv,N.aJ.map bg.pv,l.map Path.pv,N.aR.map aH.pv,N.bu,N.within,N.cap,())) l.length _ (fin:=fR bC ((l.length:Int),N.stops.map Stop.pv,N.au.map aG.pv,N.runs.map dS.pv,N.aJ.map bg.pv,l.map Path.pv,N.aR.map aH.pv,N.bu,N.within,N.cap,()) fun _=>none) VP (fun rec=>?_) (by have:=bf;omega) (s0:=(0,N.stops.map Stop.pv,N.au.map aG.pv,N.runs.map dS.pv,N.aJ.map bg.pv,l.map Path.pv,N.aR.map aH.pv,N.bu,N.within,N.cap,())) rfl
  ·rw[oQ,js,js,if_neg hz,if_neg hz]
  ·unfold fR;dsimp only;rw[if_neg (by simp),if_neg (by simp)]
end Go.Ab.Tt
namespace Go.Ab.Tt
set_option maxRecDepth 100000
set_option linter.unusedVariables false
set_option linter.unusedSimpArgs false
def fS(x:dS):Bytes×Int×Int:=(x.id,x.day,x.inst)
def KH(x:Bytes×Int×Int):PV:=.agg [.str x.1,.int .i64 x.2.1,.int .i64 x.2.2]
theorem VR(a b:Bytes×Int×Int):dK (KH a).cells (KH b).cells=decide (a=b):=by obtain⟨a1,a2,a3⟩:=a;obtain⟨b1,b2,b3⟩:=b;rw[Bool.eq_iff_iff];simp[KH,PV.cells,dK,peq]
def kL(l:List dS)(stops au:Int)(k:Nat):Int:=match l[k]? with
 |none=>0
 |some x=>if kj x.id=false then 12 else if(decide (x.Bc< -1)||decide (x.inst<0))=true then 2 else if(decide (x.day<0)||decide (x.day>36524))=true then 11 else if(decide (x.eC<0)||decide (x.eC≥au))=true then 9 else if(ja x.calls stops 0 3155932800).2=0 then(if fS x∈(l.map fS).take k then 6 else 0)else(ja x.calls stops 0 3155932800).2
def pN(l:List dS)(stops au:Int):Int×Int:=if l.length>1024 then(0,5)else bN (kL l stops au) l.length
theorem OR(N:ag)(l:List dS)(hl:l.length≤maxLen∧∀y∈l,y.Ok)(k:Nat)(hk:k<l.length)(rec:SL→Option PV):gz (l.map dS.pv,(l.length:Int),(k:Int),N.stops.map Stop.pv,N.au.map aG.pv,l.map dS.pv,N.aJ.map bg.pv,N.paths.map Path.pv,N.aR.map aH.pv,N.bu,N.within,N.cap,0,0,0,seen KH ((l.map fS).take k),()) rec=gb (if kL l N.stops.length N.au.length k=0 then none else some (some (r3 2 k (kL l N.stops.length N.au.length k)))) (rec (l.map dS.pv,(l.length:Int),((k+1:Nat):Int),N.stops.map Stop.pv,N.au.map aG.pv,l.map dS.pv,N.aJ.map bg.pv,N.paths.map Path.pv,N.aR.map aH.pv,N.bu,N.within,N.cap,0,0,0,seen KH ((l.map fS).take (k+1)),())):=by
 have hm:=aY;have h1:decide ((k:Int)<(l.length:Int))=true:=by simp;omega
 have hO:=hl.2 _ (List.getElem_mem hk);have hid:=zQ l[k].id hO.id;have zD:=SI l[k].calls N.stops.length 0 3155932800 hO.calls.1;simp only[res]at zD;have su:eS (.agg [.str l[k].id,.int .i64 l[k].day,.int .i64 l[k].inst]) (.bool true) (seen KH ((l.map fS).take k))=_:=oJ VR (fS l[k]) ((l.map fS).take k);have tF:dH (.agg [.str l[k].id,.int .i64 l[k].day,.int .i64 l[k].inst]) (.bool false) (seen KH ((l.map fS).take k))=_:=lY VR (fS l[k]) ((l.map fS).take k);unfold gz;dsimp only;rw[if_pos h1,aQ,List.getElem?_map,List.getElem?_eq_getElem hk];simp only[Option.map_some,U,uF,aaT,aaU,aaV,J3,zJ,cR,asInt,asBool,aa,if_true,List.length_map,hid,zD,cP,List.length_cons,List.length_nil,Nat.reduceAdd,List.getD_cons_zero,List.getD_cons_succ,aW,pD,su,tF,ES,QW,sL,rI,zR,rj fS l k hk,ai (show k<9223372036854775807 by omega)];unfold kL;rw[List.getElem?_eq_getElem hk];simp only;generalize (decide (l[k].Bc< -1)||decide (l[k].inst<0))=A;generalize (decide (l[k].day<0)||decide (l[k].day>36524))=B;generalize (decide (l[k].eC<0)||decide (l[k].eC≥(N.au.length:Int)))=C;generalize (ja l[k].calls N.stops.length 0 3155932800).2=e;cases kj l[k].id with
 |false=>rfl
 |true=>
  cases A with
  |true=>rfl
  |false=>
   cases B with
   |true=>rfl
   |false=>
    cases C with
    |true=>rfl
    |false=>
     simp only[Bool.not_true,Bool.false_eq_true,Bool.true_eq_false,if_false];by_cases he:e=0
     ·subst he;by_cases bJ:fS l[k]∈(l.map fS).take k
      ·simp only[bJ,if_true,decide_true,Bool.not_true,Bool.false_eq_true,if_false];rfl
      ·simp only[bJ,if_true,decide_true,decide_false,Bool.not_true,Bool.false_eq_true,if_false];rfl
     ·simp only[he,if_false,if_true,decide_false,Bool.not_false];rfl
theorem Ik(N:ag)(hl:N.runs.length≤maxLen∧∀y∈N.runs,y.Ok):fj [N.pv]=some (prt 2 (pN N.runs N.stops.length N.au.length)):=by
 have hm:=aY;simp only[fj,my,gL,gM,gN,gO,gP,gQ,gR,gS,gT,gU,U,List.length_map];generalize LH:N.runs=l at hl⊢;unfold pN;by_cases xl:l.length>1024
 ·rw[if_pos (by simp;omega),if_pos xl];rfl
 ·rw[if_neg (by simp;omega),if_neg xl];have hR:some (prt 2 (bN (kL l N.stops.length N.au.length) l.length))=if(bN (kL l N.stops.length N.au.length) l.length).2=0 then some (r3 0 0 0)else some (r3 2 (bN (kL l N.stops.length N.au.length) l.length).1 (bN (kL l N.stops.length N.au.length) l.length).2):=by
   unfold prt;by_cases h:(bN (kL l N.stops.length N.au.length) l.length).2=0
   ·rw[if_pos h,if_pos h]
   ·rw[if_neg h,if_neg h]
  rw[hR,←js (kL l N.stops.length N.au.length) l.length (fun i e=>r3 2 i e)];refine bL (fun k=>(l.map dS.pv,(l.length:Int),(k:Int),N.stops.map Stop.pv,N.au.map aG.pv,l.map dS.pv,N.aJ.map bg.pv,N.paths.map Path.pv,N.aR.map aH.pv,N.bu,N.within,N.cap,0,0,0,seen KH ((l.map fS).take k),())) l.length _ (fun k hk rec=>OR N l hl k hk rec) (fun rec=>?_) ?_ rfl
  ·unfold gz;dsimp only;rw[if_neg (by simp)];rfl
  ·have:=bf;omega
theorem OS(N:ag)(l:List dS)(hl:l.length≤maxLen)(i:Nat)(hi:i<l.length):bC.run pO ((i:Int),0,N.stops.map Stop.pv,N.au.map aG.pv,l.map dS.pv,N.aJ.map bg.pv,N.paths.map Path.pv,N.aR.map aH.pv,N.bu,N.within,N.cap,.int .i64 l[i].Bc,.int .i64 l[i].day,.int .i64 l[i].inst,.str l[i].id,.int .i64 l[i].eC,.bool l[i].free,.bool l[i].Vh,.rs 5 (l[i].calls.map cO.pv),())=if fS l[i]∈(l.map fS).take i then some (.int .i64 6)else some (.int .i64 0):=by
 have hm:=aY;refine(tG (fun k=>((i:Int),(k:Int),N.stops.map Stop.pv,N.au.map aG.pv,l.map dS.pv,N.aJ.map bg.pv,N.paths.map Path.pv,N.aR.map aH.pv,N.bu,N.within,N.cap,PV.int .i64 l[i].Bc,PV.int .i64 l[i].day,PV.int .i64 l[i].inst,PV.str l[i].id,PV.int .i64 l[i].eC,PV.bool l[i].free,PV.bool l[i].Vh,PV.rs 5 (l[i].calls.map cO.pv),())) i (fun k=>decide ((l.map fS)[k]?=some (fS l[i]))) (no:=some (.int .i64 6)) (fin:=some (.int .i64 0)) (fun k hk rec=>?_) (fun rec=>?_) ?_ rfl).trans ?_
 ·have h1:decide ((k:Int)<(i:Int))=true:=by simp;omega
  have qz:k<l.length:=by omega
  have hd:decide ((l.map fS)[k]?=some (fS l[i]))=(decide (l[k].id=l[i].id)&&decide (l[k].day=l[i].day)&&decide (l[k].inst=l[i].inst)):=by rw[Bool.eq_iff_iff];simp[List.getElem?_eq_getElem qz,fS,and_assoc]
  rw[hd];unfold pO;dsimp only;rw[if_pos h1,aQ,List.getElem?_map,List.getElem?_eq_getElem qz];simp only[Option.map_some,U,aaT,aaU,aaV,asInt,cR,if_true,ai (show k<9223372036854775807 by omega),ga,aZ]
 ·unfold pO;dsimp only;rw[if_neg (by simp)]
 ·have:=bf;omega
 ·rw[CO _ _ (by simp;omega)];simp only[decide_eq_true_eq]
theorem Yg(N:ag)(hl:N.runs.length≤maxLen∧∀y∈N.runs,y.Ok)(k:Nat)(hk:k<N.runs.length):oK [N.pv,.int .i64 k]=some (.int .i64 (kL N.runs N.stops.length N.au.length k)):=by
 have hm:=aY;have hO:=hl.2 _ (List.getElem_mem hk);simp only[oK,AZ,gL,gM,gN,gO,gP,gQ,gR,gS,gT,gU,U];generalize LH:N.runs=l at hl hk hO⊢;have hO':l[k].Ok:=by subst LH;exact hO
 have hid:=uK l[k].id hO'.id;have zD:=SJ l[k].calls N.stops.length 0 3155932800 hO'.calls.1;have ow:=OS N l hl.1 k hk;simp only[asInt,if_true,U,aQ,List.getElem?_map,List.getElem?_eq_getElem hk,Option.map_some,uF,aaT,aaU,aaV,J3,aaG,aaH,zJ,cR,asBool,aa,List.length_map,hid,zD,EP,aW,pD,ow];unfold kL;rw[List.getElem?_eq_getElem hk];simp only;have hB:(!(decide (l[k].day≥0)&&decide (l[k].day≤36524)))=(decide (l[k].day<0)||decide (l[k].day>36524)):=by rw[Bool.eq_iff_iff];simp only[Bool.or_eq_true,Bool.not_eq_true',Bool.and_eq_false_iff,decide_eq_true_eq,decide_eq_false_iff_not];omega
 rw[hB];generalize (decide (l[k].Bc< -1)||decide (l[k].inst<0))=A;generalize (decide (l[k].day<0)||decide (l[k].day>36524))=B;generalize (decide (l[k].eC<0)||decide (l[k].eC≥(N.au.length:Int)))=C;generalize (ja l[k].calls N.stops.length 0 3155932800).2=e;cases kj l[k].id with
 |false=>rfl
 |true=>
  cases A with
  |true=>rfl
  |false=>
   cases B with
   |true=>rfl
   |false=>
    cases C with
    |true=>rfl
    |false=>
     simp only[Bool.not_true,Bool.false_eq_true,Bool.true_eq_false,if_false];by_cases he:e=0
     ·subst he;by_cases bJ:fS l[k]∈(l.map fS).take k
      ·simp only[bJ,if_true,decide_true,Bool.not_true,Bool.false_eq_true,if_false]
      ·simp only[bJ,if_true,decide_true,Bool.not_true,Bool.false_eq_true,if_false]
     ·simp only[he,if_false,if_true,decide_false,Bool.not_false]
end Go.Ab.Tt
namespace Go.Ab.Tt
set_option maxRecDepth 100000
set_option linter.unusedVariables false
set_option linter.unusedSimpArgs false
def nx(p:List bg)(v:Int):Option Int:=p.foldl (fun o x=>if(x.stay&&decide (x.a=v))=true then some x.b else o) none
theorem aaW(v:Int):nx [] v=none:=rfl
theorem uL(p:List bg)(x:bg)(v:Int):nx (p++[x]) v=if(x.stay&&decide (x.a=v))=true then some x.b else nx p v:=by unfold nx;rw[List.foldl_append];rfl
def it(f:Int→Option Int):Nat→Int→Option Int
 |0,v=>some v
 |m+1,v=>(f v).bind (it f m)
theorem QZ(f:Int→Option Int)(m:Nat)(v:Int):it f (m+1) v=(it f m v).bind f:=by
 induction m generalizing v with
 |zero=>show(f v).bind (it f 0)=f v;cases h:f v<;>rfl
 |succ m ih=>
  show(f v).bind (it f (m+1))=((f v).bind (it f m)).bind f;cases h:f v with
  |none=>rfl
  |some w=>exact ih w
def rA(p:List bg)(a b:Int)(n:Nat):Bool:=(List.range n).any fun t=>decide (it (nx p) (t+1) a=some b)
def yS(f:Int→Option Int):Prop:=∃r:Int→Nat,∀v w,f v=some w→r w<r v
theorem OT:yS (nx []):=⟨fun _=>0,fun v w h=>by cases h⟩
variable{p:List bg}
theorem VS{v w:Int}(h:nx p v=some w):∃x∈p,x.stay=true∧x.a=v∧x.b=w:=by
 have key:∀n,n≤p.length→nx (p.take n) v=some w→∃x∈p,x.stay=true∧x.a=v∧x.b=w:=by
  intro n;induction n with
  |zero=>intro _ h;cases h
  |succ n ih=>
   intro hn h;have RB:n<p.length:=by omega
   rw[List.take_succ_eq_append_getElem RB,uL]at h;by_cases hc:(p[n].stay&&decide (p[n].a=v))=true
   ·rw[if_pos hc]at h;simp only[Bool.and_eq_true,decide_eq_true_eq]at hc;exact⟨p[n],List.getElem_mem RB,hc.1,hc.2,by simpa using h⟩
   ·rw[if_neg hc]at h;exact ih (by omega) h
 exact key p.length (Nat.le_refl _) (by rw[List.take_length];exact h)
theorem OU{f:Int→Option Int}(hf:yS f)(S:List Int)(hS:∀v w,f v=some w→v∈S):∀m v,it f m v≠none→m≤S.length:=by
 obtain⟨r,hr⟩:=hf;induction hn:S.length generalizing S f r with
 |zero=>
  intro m v h;cases m with
  |zero=>omega
  |succ m=>
   exfalso;cases hfv:f v with
   |none=>exact h (by show(f v).bind _=none;rw[hfv];rfl)
   |some w=>have:=hS v w hfv;rw[List.length_eq_zero_iff.1 hn]at this;cases this
 |succ n ih=>
  intro m v h;cases m with
  |zero=>omega
  |succ m=>
   cases hfv:f v with
   |none=>exact absurd (by show(f v).bind _=none;rw[hfv];rfl) h
   |some w=>
    have hvS:=hS v w hfv;let g:Int→Option Int:=fun x=>if x=v then none else f x;have hg:∀x y,g x=some y→r y<r x:=fun x y Yh=>by
     by_cases hx:x=v
     ·simp[g,hx]at Yh
     ·simp only[g,hx,if_false]at Yh;exact hr x y Yh
    have hgS:∀x y,g x=some y→x∈S.erase v:=fun x y Yh=>by
     by_cases hx:x=v
     ·simp[g,hx]at Yh
     ·simp only[g,hx,if_false]at Yh;exact(List.mem_erase_of_ne hx).2 (hS x y Yh)
    have hlen:(S.erase v).length=n:=by rw[List.length_erase_of_mem hvS];omega
    have Uv:∀k x,r x<r v→it g k x=it f k x:=by
     intro k;induction k with
     |zero=>intros;rfl
     |succ k ihk=>
      intro x hx;have hxv:x≠v:=fun h=>by subst h;omega
      show(g x).bind (it g k)=(f x).bind (it f k);have:g x=f x:=by simp[g,hxv]
      rw[this];cases hfx:f x with
      |none=>rfl
      |some y=>exact ihk y (by have:=hr x y hfx;omega)
    have hw:it f m w≠none:=by intro hc;apply h;show(f v).bind (it f m)=none;rw[hfv];exact hc
    have:=ih (S.erase v) hgS r hg hlen m w (by rw[Uv m w (hr v w hfv)];exact hw);omega
theorem Il(hp:yS (nx p)){m:Nat}(hm:p.length<m)(v:Int):it (nx p) m v=none:=by
 cases h:it (nx p) m v with
 |none=>rfl
 |some w=>have:=OU hp (p.map bg.a) (fun x y Yh=>by obtain⟨l,h1,h2,h3,h4⟩:=VS Yh;exact List.mem_map.2 ⟨l,h1,h3⟩) m v (by rw[h];exact fun h=>nomatch h);rw[List.length_map]at this;omega
theorem KI(hp:yS (nx p))(x:bg)(h:x.stay=false∨(x.a≠x.b∧nx p x.a=none∧rA p x.b x.a (p.length+1)=false)):yS (nx (p++[x])):=by
 cases hs:x.stay with
 |false=>obtain⟨r,hr⟩:=hp;refine⟨r,fun v w WL=>hr v w ?_⟩;rw[uL,hs,Bool.false_and,if_neg (by simp)]at WL;exact WL
 |true=>
  rw[hs]at h;rcases h with h|⟨sQ,hna,VT⟩
  ·cases h
  have F1:=hp;obtain⟨r,hr⟩:=hp;have AM:∀t,it (nx p) (t+1) x.b≠some x.a:=by
   intro t ht;by_cases bm:t<p.length+1
   ·unfold rA at VT;rw[List.any_eq_false]at VT;exact VT t (by simpa using bm) (by simpa using ht)
   ·rw[Il F1 (by omega)]at ht;cases ht
  let R:Int→Prop:=fun v=>∃t,it (nx p) t v=some x.a;have hRb:¬R x.b:=fun⟨t,ht⟩=>by
   cases t with
   |zero=>exact sQ (by simpa[it]using ht.symm)
   |succ t=>exact AM t ht
  refine⟨fun v=>open Classical in if R v then r v+r x.b+1 else r v,fun v w WL=>?_⟩;rw[uL,hs,Bool.true_and]at WL;by_cases hv:x.a=v
  ·rw[if_pos (by simpa using hv)]at WL;simp only[Option.some.injEq]at WL;subst WL;have hRv:R v:=⟨0,by show some v=some x.a;rw[hv]⟩;show(open Classical in if R x.b then r x.b+r x.b+1 else r x.b)<(open Classical in if R v then r v+r x.b+1 else r v);rw[if_neg hRb,if_pos hRv];omega
  ·rw[if_neg (by simpa using hv)]at WL;have bm:=hr v w WL;show(open Classical in if R w then r w+r x.b+1 else r w)<(open Classical in if R v then r v+r x.b+1 else r v);by_cases hw:R w
   ·have hRv:R v:=by obtain⟨t,ht⟩:=hw;exact⟨t+1,by show(nx p v).bind (it (nx p) t)=some x.a;rw[WL];exact ht⟩
    rw[if_pos hw,if_pos hRv];omega
   ·rw[if_neg hw];by_cases hRv:R v
    ·rw[if_pos hRv];omega
    ·rw[if_neg hRv];exact bm
end Go.Ab.Tt
namespace Go.Ab.Tt
set_option maxRecDepth 100000
set_option linter.unusedVariables false
set_option linter.unusedSimpArgs false
def sa(a:Int):PV:=.int .i64 a
def cZ(x:bg):Int×Int×Int×Int:=(x.a,x.ac,x.b,x.bc)
def KJ(x:Int×Int×Int×Int):PV:=.agg [.int .i64 x.1,.int .i64 x.2.1,.int .i64 x.2.2.1,.int .i64 x.2.2.2]
theorem VU(a b:Int×Int×Int×Int):dK (KJ a).cells (KJ b).cells=decide (a=b):=by obtain⟨a1,a2,a3,a4⟩:=a;obtain⟨b1,b2,b3,b4⟩:=b;rw[Bool.eq_iff_iff];simp[KJ,PV.cells,dK,peq]
def xT(p:List bg):List (Int×PV):=p.foldl (fun m x=>if x.stay=true then yT x.a (.int .i64 x.b) m else m) []
theorem yU(p:List bg)(x:bg):xT (p++[x])=if x.stay=true then yT x.a (.int .i64 x.b) (xT p)else xT p:=by unfold xT;rw[List.foldl_append];rfl
def OV(a:Int)(m:List (Int×PV)):Bool:=m.any fun x=>decide (a=x.1)
theorem Q0(a:Int):∀m,vf (sa a) (vc sa m)=OV a m
 |[]=>rfl
 |(b,u)::r=>by have:=Q0 a r;simp only[vc]at this;simp only[vc,List.map_cons,vf,OV,List.any_cons];rw[this];have:dK (sa a).cells (sa b).cells=decide (a=b):=zU a b;rw[this];rfl
theorem KK(a b:Int)(v:PV):∀m,OV a (yT b v m)=(decide (a=b)||OV a m)
 |[]=>by simp[OV,yT]
 |(c,u)::r=>by
  have:=KK a b v r;simp only[OV]at this⊢;by_cases h:b=c
  ·subst h;simp[yT]
  ·simp only[yT,h,if_false,List.any_cons,this];cases decide (a=c)<;>simp
theorem EU{A:Type}{P:List A→Prop}(h0:P [])(h1:∀p x,P p→P (p++[x]))(l:List A):P l:=by
 have key:∀n,n≤l.length→P (l.take n):=by
  intro n;induction n with
  |zero=>intro _;rw[List.take_zero];exact h0
  |succ n ih=>intro hn;rw[List.take_succ_eq_append_getElem (show n<l.length by omega)];exact h1 _ _ (ih (by omega))
 have:=key l.length (Nat.le_refl _);rw[List.take_length]at this;exact this
theorem SN(p:List bg)(v:Int):wy v (.int .i64 0) (xT p)=.int .i64 ((nx p v).getD 0):=by
 induction p using EU with
 |h0=>rfl
 |h1 p x ih=>
  rw[yU,uL];cases hs:x.stay with
  |false=>rw[if_neg (by simp),Bool.false_and,if_neg (by simp)];exact ih
  |true=>
   rw[if_pos rfl,Bf,Bool.true_and];by_cases h:x.a=v
   ·rw[if_pos h.symm,if_pos (by simpa using h)];rfl
   ·rw[if_neg (fun hc=>h hc.symm),if_neg (by simpa using h)];exact ih
theorem VV(p:List bg)(v:Int):OV v (xT p)=(nx p v).isSome:=by
 induction p using EU with
 |h0=>rfl
 |h1 p x ih=>
  rw[yU,uL];cases hs:x.stay with
  |false=>rw[if_neg (by simp),Bool.false_and,if_neg (by simp)];exact ih
  |true=>
   rw[if_pos rfl,KK,Bool.true_and];by_cases h:x.a=v
   ·rw[if_pos (by simpa using h)];simp[h]
   ·rw[if_neg (by simpa using h),ih];have:decide (v=x.a)=false:=by simpa using fun hc=>h hc.symm
    rw[this,Bool.false_or]
def oL(p:List bg):List (PV×PV):=vc sa (xT p)
theorem yV(p:List bg)(v:Int):dH (.int .i64 v) (.int .i64 0) (oL p)=.int .i64 ((nx p v).getD 0):=by have:=EV (key:=sa) zU v (.int .i64 0) (xT p);rw[SN]at this;exact this
theorem Bg(p:List bg)(v:Int):vf (.int .i64 v) (oL p)=(nx p v).isSome:=by have:=Q0 v (xT p);rw[VV]at this;exact this
theorem OW(p:List bg)(x:bg):oL (p++[x])=if x.stay=true then eS (.int .i64 x.a) (.int .i64 x.b) (oL p)else oL p:=by
 have:=Im (key:=sa) zU x.a (.int .i64 x.b) (xT p);unfold oL;rw[yU];by_cases h:x.stay=true
 ·rw[if_pos h,if_pos h];exact this.symm
 ·rw[if_neg h,if_neg h]
def nj(p:List bg):List Int:=(p.filter bg.stay).map bg.b
theorem OX(p:List bg)(x:bg):nj (p++[x])=if x.stay=true then nj p++[x.b]else nj p:=by unfold nj;by_cases h:x.stay=true<;>simp[List.filter_append,List.filter_cons,h]
theorem SO(p:List bg)(v:Int):(nx p v).isSome=p.any fun y=>y.stay&&decide (y.a=v):=by
 induction p using EU with
 |h0=>rfl
 |h1 p x ih=>
  rw[uL,List.any_append,←ih];by_cases h:(x.stay&&decide (x.a=v))=true
  ·rw[if_pos h];simp only[List.any_cons,List.any_nil,h];simp
  ·rw[if_neg h];simp only[List.any_cons,List.any_nil,h];simp
theorem VW(p:List bg)(v:Int):decide (v∈nj p)=p.any fun y=>y.stay&&decide (y.b=v):=by
 rw[Bool.eq_iff_iff,decide_eq_true_eq];simp only[nj,decide_eq_true_eq,List.mem_map,List.mem_filter,List.any_eq_true,Bool.and_eq_true];constructor
 ·rintro⟨x,⟨h1,h2⟩,h3⟩;exact⟨x,h1,h2,h3⟩
 ·rintro⟨x,h1,h2,h3⟩;exact⟨x,⟨h1,h2⟩,h3⟩
def aaX(f:Int→Option Int)(a b:Int)(t:Nat):Option (Option PV):=(it f (t+1) a).elim (some (some (.bool false))) fun v=>if v=b then some (some (.bool true))else none
theorem OY(f:Int→Option Int)(b:Int)(n:Nat):∀a,it f (n+1) a=none→gb ((List.range n).findSome? (aaX f a b)) (some (.bool false))=some (.bool ((List.range (n+1)).any fun t=>decide (it f (t+1) a=some b))):=by
 induction n with
 |zero=>intro a h;simp[gb,h]
 |succ n ih=>
  intro a h;rw[List.range_succ_eq_map (n:=n+1),List.range_succ_eq_map (n:=n),List.findSome?_cons,List.any_cons];have h0:it f (0+1) a=f a:=by show(f a).bind (it f 0)=f a;cases hf:f a<;>rfl
  unfold aaX;rw[h0];cases hf:f a with
  |none=>
   have hz:∀t,it f (t+1) a=none:=fun t=>by show(f a).bind _=none;rw[hf];rfl
   simp only[Option.elim,gb,List.any_map,Function.comp_def,hz];simp
  |some v=>
   have hs:∀t,it f (t+1+1) a=it f (t+1) v:=fun t=>by show(f a).bind _=_;rw[hf];rfl
   by_cases hv:v=b
   ·subst hv;simp only[Option.elim,if_true,gb,decide_true,Bool.true_or]
   ·have hd:decide (some v=some b)=false:=by simpa using hv
    simp only[Option.elim,if_neg hv,hd,Bool.false_or];have:=ih v (by rw[←hs];exact h);rw[List.findSome?_map,List.any_map];simp only[Function.comp_def,Nat.succ_eq_add_one,hs];rw[←List.range_succ_eq_map];exact this
theorem OZ(p:List bg)(hp:yS (nx p))(hl:p.length≤maxLen)(a b:Int):jn [.rm 3 ((oL p).map fun x=>x.fst) ((oL p).map fun x=>x.snd),.int .i64 a,.int .i64 b]=some (.bool (rA p a b (p.length+1))):=by
 have hz:((oL p).map fun x=>x.fst).zip ((oL p).map fun x=>x.snd)=oL p:=by
  generalize oL p=m;induction m with
  |nil=>rfl
  |cons x m ih=>simp only[List.map_cons,List.zip_cons_cons,ih]
 simp only[jn,sx,dP,if_true,asInt,U,hz,yV,Bg];unfold rA;rw[←OY (nx p) b p.length a (Il hp (by omega) a)];refine bL (fun t=>(PV.rm 3 ((oL p).map fun x=>x.fst) ((oL p).map fun x=>x.snd),b,(it (nx p) (t+1) a).getD 0,(it (nx p) (t+1) a).isSome,())) p.length _ (fun t ht rec=>?_) (fun rec=>?_) (by have:=bf;omega) ?_
 ·unfold kC aaX;dsimp only;rw[QZ (nx p) (t+1) a];cases hv:it (nx p) (t+1) a with
  |none=>rfl
  |some v=>
   simp only[Option.isSome_some,Option.getD_some,if_true,ga,decide_eq_true_eq,Option.elim];by_cases Yi:v=b
   ·rw[if_pos Yi,if_pos Yi];rfl
   ·rw[if_neg Yi,if_neg Yi];simp only[dP,if_true,hz,yV,Bg,asInt,U,gb,Option.bind_some]
 ·unfold kC;dsimp only;rw[Il hp (by omega)];rfl
 ·show(_,b,(it (nx p) 1 a).getD 0,(it (nx p) 1 a).isSome,())=_;have:it (nx p) 1 a=nx p a:=by show(nx p a).bind _=_;cases nx p a<;>rfl
  rw[this]
def bq(runs:List dS)(a:Int):List cO:=((runs[a.toNat]?).map dS.calls).getD []
def wz(cs:List cO)(c:Int):Int:=((cs[c.toNat]?).map cO.stop).getD 0
def EW(x:bg)(R:Int):Bool:= !(decide (x.a≥0)&&decide (x.a<R))|| !(decide (x.b≥0)&&decide (x.b<R))||decide (x.a=x.b)
def B9(x:bg)(A B:Int):Bool:= !(decide (x.ac≥0)&&decide (x.ac<A))|| !(decide (x.bc≥0)&&decide (x.bc<B))
def Ca(p:List bg)(x:bg)(A:Int):Bool:=x.stay&&(!decide (x.ac+1=A)|| !decide (x.bc=0)||(nx p x.a).isSome||decide (x.b∈nj p)||rA p x.b x.a (p.length+1))
def cN(runs:List dS)(l:List bg)(k:Nat):Int:=match l[k]? with
 |none=>0
 |some x=>if EW x runs.length=true then 9 else if B9 x (bq runs x.a).length (bq runs x.b).length=true then 9 else if wz (bq runs x.a) x.ac≠wz (bq runs x.b) x.bc then 13 else if Ca (l.take k) x (bq runs x.a).length=true then 19 else if cZ x∈(l.map cZ).take k then 6 else 0
def mD(runs:List dS)(l:List bg):Int×Int:=if l.length>1024 then(0,5)else bN (cN runs l) l.length
theorem EX(runs:List dS)(l:List bg)(k:Nat)(hk:k≤l.length)(h:∀j,j<k→cN runs l j=0):yS (nx (l.take k))∧∀x∈l.take k,0≤x.a:=by
 induction k with
 |zero=>rw[List.take_zero];exact⟨OT,fun x hx=>by cases hx⟩
 |succ k ih=>
  have qz:k<l.length:=by omega
  obtain⟨h1,h2⟩:=ih (by omega) fun j hj=>h j (by omega);have hz:=h k (by omega);unfold cN at hz;rw[List.getElem?_eq_getElem qz]at hz;simp only at hz;have hr:EW l[k] runs.length=false:=by
   cases hr:EW l[k] runs.length with
   |false=>rfl
   |true=>rw[hr,if_pos rfl]at hz;cases hz
  have hs:Ca (l.take k) l[k] (bq runs l[k].a).length=false:=by
   cases hs:Ca (l.take k) l[k] (bq runs l[k].a).length with
   |false=>rfl
   |true=>
    rw[hs]at hz;split at hz
    ·cases hz
    ·split at hz
     ·cases hz
     ·split at hz
      ·cases hz
      ·rw[if_pos rfl]at hz;cases hz
  unfold EW at hr;simp only[Bool.or_eq_false_iff,Bool.not_eq_false',Bool.and_eq_true,decide_eq_true_eq,decide_eq_false_iff_not]at hr;rw[List.take_succ_eq_append_getElem qz];refine⟨KI h1 l[k] ?_,fun x hx=>?_⟩
  ·unfold Ca at hs;cases oQ:l[k].stay with
   |false=>exact Or.inl rfl
   |true=>
    rw[oQ,Bool.true_and]at hs;simp only[Bool.or_eq_false_iff]at hs;refine Or.inr ⟨hr.2,?_,hs.2⟩;have:=hs.1.1.2;cases hn:nx (l.take k) l[k].a with
    |none=>rfl
    |some w=>rw[hn]at this;cases this
  ·rcases List.mem_append.1 hx with hx|hx
   ·exact h2 x hx
   ·rw[List.mem_singleton]at hx;subst hx;exact hr.1.1.1
theorem zV(runs:List dS)(a:Int)(h:0≤a∧a<(runs.length:Int)):∃r∈runs,aO (runs.map dS.pv) a=some r.pv∧bq runs a=r.calls:=by
 obtain⟨n,rfl⟩:=Int.eq_ofNat_of_zero_le h.1;have hn:n<runs.length:=by omega
 refine⟨runs[n],List.getElem_mem hn,?_,?_⟩
 ·rw[aQ,List.getElem?_map,List.getElem?_eq_getElem hn];rfl
 ·unfold bq;rw[Int.toNat_natCast,List.getElem?_eq_getElem hn];rfl
theorem xb(cs:List cO)(c:Int)(h:0≤c∧c<(cs.length:Int)):∃r,aO (cs.map cO.pv) c=some r∧cell r 0=.int .i64 (wz cs c):=by
 obtain⟨n,rfl⟩:=Int.eq_ofNat_of_zero_le h.1;have hn:n<cs.length:=by omega
 refine⟨cs[n].pv,?_,?_⟩
 ·rw[aQ,List.getElem?_map,List.getElem?_eq_getElem hn];rfl
 ·unfold wz;rw[Int.toNat_natCast,List.getElem?_eq_getElem hn];rfl
end Go.Ab.Tt
namespace Go.Ab.Tt
set_option maxRecDepth 100000
set_option linter.unusedVariables false
set_option linter.unusedSimpArgs false
theorem wA{runs:List dS}(h:∀y∈runs,y.Ok)(a:Int):(bq runs a).length≤maxLen:=by
 unfold bq;cases hr:runs[a.toNat]? with
 |none=>simp
 |some r=>exact(h r (List.mem_of_getElem? hr)).calls.1
theorem KL(N:ag)(runs:List dS)(hr:∀y∈runs,y.Ok)(l:List bg)(hl:l.length≤maxLen)(k:Nat)(hk:k<l.length)(Ft:∀j,j<k→cN runs l j=0)(rec:TY0→Option PV):fX (l.map bg.pv,(l.length:Int),(k:Int),N.stops.map Stop.pv,N.au.map aG.pv,runs.map dS.pv,l.map bg.pv,N.paths.map Path.pv,N.aR.map aH.pv,N.bu,N.within,N.cap,0,0,0,oL (l.take k),seen sa (nj (l.take k)),seen KJ ((l.map cZ).take k),()) rec=gb (if cN runs l k=0 then none else some (some (r3 3 k (cN runs l k)))) (rec (l.map bg.pv,(l.length:Int),((k+1:Nat):Int),N.stops.map Stop.pv,N.au.map aG.pv,runs.map dS.pv,l.map bg.pv,N.paths.map Path.pv,N.aR.map aH.pv,N.bu,N.within,N.cap,0,0,0,oL (l.take (k+1)),seen sa (nj (l.take (k+1))),seen KJ ((l.map cZ).take (k+1)),())):=by
 have hm:=aY;have h1:decide ((k:Int)<(l.length:Int))=true:=by simp;omega
 obtain⟨acr,_⟩:=EX runs l k (by omega) Ft;have hlen:(l.take k).length=k:=by simp;omega
 have Bh:=OZ (l.take k) acr (by omega) l[k].b l[k].a;have su:eS (.agg [.int .i64 l[k].a,.int .i64 l[k].ac,.int .i64 l[k].b,.int .i64 l[k].bc]) (.bool true) (seen KJ ((l.map cZ).take k))=_:=oJ VU (cZ l[k]) ((l.map cZ).take k);have tF:dH (.agg [.int .i64 l[k].a,.int .i64 l[k].ac,.int .i64 l[k].b,.int .i64 l[k].bc]) (.bool false) (seen KJ ((l.map cZ).take k))=_:=lY VU (cZ l[k]) ((l.map cZ).take k);have acs:eS (.int .i64 l[k].b) (.bool true) (seen sa (nj (l.take k)))=_:=oJ (key:=sa) zU l[k].b (nj (l.take k));have aaY:dH (.int .i64 l[k].b) (.bool false) (seen sa (nj (l.take k)))=_:=lY (key:=sa) zU l[k].b (nj (l.take k));have hsn:l.take (k+1)=l.take k++[l[k]]:=List.take_succ_eq_append_getElem hk;unfold fX;dsimp only;rw[if_pos h1,aQ,List.getElem?_map,List.getElem?_eq_getElem hk,hsn,OW,OX,rj cZ l k hk];simp only[Option.map_some,U,Ez,J4,link2,J5,GP,asInt,asBool,if_true,List.length_map,yR,aW,ga];unfold cN;rw[List.getElem?_eq_getElem hk];simp only;have hR:(!(decide (l[k].a≥0)&&decide (l[k].a<(runs.length:Int)))|| !(decide (l[k].b≥0)&&decide (l[k].b<(runs.length:Int)))||decide (l[k].a=l[k].b))=EW l[k] runs.length:=rfl;rw[hR];cases hb:EW l[k] runs.length with
 |true=>simp only[if_true,ES,U,QW,sL,rI,zR];rfl
 |false=>
  unfold EW at hb;simp only[Bool.or_eq_false_iff,Bool.not_eq_false',Bool.and_eq_true,decide_eq_true_eq,decide_eq_false_iff_not]at hb;obtain⟨ra,hra,hia,hca⟩:=zV runs l[k].a ⟨hb.1.1.1,hb.1.1.2⟩;obtain⟨rb,LO,Y3,Oz⟩:=zV runs l[k].b ⟨hb.1.2.1,hb.1.2.2⟩;have hA:=wA hr l[k].a;rw[hia,Y3];simp only[U,zJ,aa,if_true,List.length_map,←hca,←Oz,yR,asBool,aW];have hC:(!(decide (l[k].ac≥0)&&decide (l[k].ac<((bq runs l[k].a).length:Int)))|| !(decide (l[k].bc≥0)&&decide (l[k].bc<((bq runs l[k].b).length:Int))))=B9 l[k] (bq runs l[k].a).length (bq runs l[k].b).length:=rfl;rw[hC];cases El:B9 l[k] (bq runs l[k].a).length (bq runs l[k].b).length with
  |true=>simp only[if_true,ES,U,QW,sL,rI,zR];rfl
  |false=>
   unfold B9 at El;simp only[Bool.or_eq_false_iff,Bool.not_eq_false',Bool.and_eq_true,decide_eq_true_eq]at El;obtain⟨ka,hka,hsa⟩:=xb (bq runs l[k].a) l[k].ac El.1;obtain⟨kb,hkb,hsb⟩:=xb (bq runs l[k].b) l[k].bc El.2;have hw:IntKind.i64.wrap (l[k].ac+1)=l[k].ac+1:=bF (by omega) (by omega);simp only[Bool.false_eq_true,if_false,hka,hkb,U,hsa,hsb,yV,Bg,tF,aaY,su,acs,asInt,asBool,if_true,Bh,hw,hlen,aW,aZ,pD,ES,QW,sL,rI,zR,ai (show k<9223372036854775807 by omega)];have hS:(l[k].stay&&(!decide (l[k].ac+1=((bq runs l[k].a).length:Int))|| !decide (l[k].bc=0)||(nx (l.take k) l[k].a).isSome||decide (l[k].b∈nj (l.take k))||rA (l.take k) l[k].b l[k].a (k+1)))=Ca (l.take k) l[k] (bq runs l[k].a).length:=by unfold Ca;rw[hlen]
   rw[hS];generalize Ca (l.take k) l[k] (bq runs l[k].a).length=S;by_cases oQ:wz (bq runs l[k].a) l[k].ac=wz (bq runs l[k].b) l[k].bc
   ·simp only[oQ,decide_true,Bool.not_true,Bool.false_eq_true,if_false,ne_eq,not_true];cases S with
    |true=>rfl
    |false=>
     by_cases bJ:cZ l[k]∈(l.map cZ).take k
     ·simp only[bJ,decide_true,if_true,Bool.false_eq_true,if_false];rfl
     ·simp only[bJ,decide_false,if_true,Bool.false_eq_true,if_false];cases l[k].stay<;>rfl
   ·simp only[oQ,decide_false,Bool.not_false,if_true,ne_eq,not_false_eq_true];rfl
theorem FD(N:ag)(hr:N.runs.length≤maxLen∧∀y∈N.runs,y.Ok)(hl:N.aJ.length≤maxLen):dE [N.pv]=some (prt 3 (mD N.runs N.aJ)):=by
 have hm:=aY;simp only[dE,lO,gL,gM,gN,gO,gP,gQ,gR,gS,gT,gU,U,List.length_map];generalize LH:N.aJ=l at hl⊢;generalize yb:N.runs=runs at hr⊢;unfold mD;by_cases xl:l.length>1024
 ·rw[if_pos (by simp;omega),if_pos xl];rfl
 ·rw[if_neg (by simp;omega),if_neg xl];have hR:some (prt 3 (bN (cN runs l) l.length))=if(bN (cN runs l) l.length).2=0 then some (r3 0 0 0)else some (r3 3 (bN (cN runs l) l.length).1 (bN (cN runs l) l.length).2):=by
   unfold prt;by_cases h:(bN (cN runs l) l.length).2=0
   ·rw[if_pos h,if_pos h]
   ·rw[if_neg h,if_neg h]
  rw[hR,←js (cN runs l) l.length (fun i e=>r3 3 i e)];refine xS (fun k=>(l.map bg.pv,(l.length:Int),(k:Int),N.stops.map Stop.pv,N.au.map aG.pv,runs.map dS.pv,l.map bg.pv,N.paths.map Path.pv,N.aR.map aH.pv,N.bu,N.within,N.cap,0,0,0,oL (l.take k),seen sa (nj (l.take k)),seen KJ ((l.map cZ).take k),())) l.length _ (fun k hk Ft rec=>KL N runs hr.2 l hl k hk (fun j hj=>?_) rec) (fun _ rec=>?_) (by have:=bf;omega) rfl
  ·have:=Ft j hj;by_cases h0:cN runs l j=0
   ·exact h0
   ·rw[if_neg h0]at this;cases this
  ·unfold fX;dsimp only;rw[if_neg (by simp)];rfl
theorem SP(N:ag)(i:Nat)(hi:i<N.aJ.length)(hl:N.aJ.length≤maxLen)(hp:∀x∈N.aJ.take i,0≤x.a)(a b:Int)(hb:0≤b):lj [N.pv,.int .i64 i,.int .i64 a,.int .i64 b]=some (.bool (rA (N.aJ.take i) a b (i+1))):=by
 have hm:=aY;simp only[lj,vZ,gL,gM,gN,gO,gP,gQ,gR,gS,gT,gU,U];simp only[asInt,if_true,U];generalize LH:N.aJ=l at hl hi hp⊢;have X6:nx (l.take i) (-1)=none:=by
  cases hn:nx (l.take i) (-1)with
  |none=>rfl
  |some w=>obtain⟨x,hx,_,hxa,_⟩:=VS hn;have:=hp x hx;omega
 have De:∀t,(nx (l.take i) ((it (nx (l.take i)) t a).getD (-1))).getD (-1)=(it (nx (l.take i)) (t+1) a).getD (-1):=by
  intro t;rw[QZ];cases it (nx (l.take i)) t a with
  |none=>simp only[Option.getD_none,Option.bind_none,X6]
  |some v=>rfl
 have ow:∀(c:Int)(t:Nat)fD,bC.run (mS fD) ((i:Int),c,b,(t:Int),-1,0,N.stops.map Stop.pv,N.au.map aG.pv,N.runs.map dS.pv,l.map bg.pv,N.paths.map Path.pv,N.aR.map aH.pv,N.bu,N.within,N.cap,())=if(nx (l.take i) c).getD (-1)=b then some (.bool true)else fD ((i:Int),(nx (l.take i) c).getD (-1),b,IntKind.i64.wrap ((t:Int)+1),N.stops.map Stop.pv,N.au.map aG.pv,N.runs.map dS.pv,l.map bg.pv,N.paths.map Path.pv,N.aR.map aH.pv,N.bu,N.within,N.cap,()):=by
  intro c t fD;refine bT (fun k=>((i:Int),c,b,(t:Int),(nx (l.take k) c).getD (-1),(k:Int),N.stops.map Stop.pv,N.au.map aG.pv,N.runs.map dS.pv,l.map bg.pv,N.paths.map Path.pv,N.aR.map aH.pv,N.bu,N.within,N.cap,())) i (fun k hk rec=>?_) (fun rec=>?_) (by have:=bf;omega) (by rw[List.take_zero,aaW];rfl)
  ·have h1:decide ((k:Int)<(i:Int))=true:=by simp;omega
   have qz:k<l.length:=by omega
   unfold mS;dsimp only;rw[if_pos h1,aQ,List.getElem?_map,List.getElem?_eq_getElem qz,List.take_succ_eq_append_getElem qz,uL];simp only[Option.map_some,U,Ez,link2,GP,asInt,asBool,if_true,aZ,ga,ai (show k<9223372036854775807 by omega)];by_cases hc:(l[k].stay&&decide (l[k].a=c))=true
   ·rw[if_pos hc,if_pos hc];rfl
   ·rw[if_neg hc,if_neg hc]
  ·unfold mS;dsimp only;rw[if_neg (by simp)];simp only[ga,decide_eq_true_eq]
 unfold rA;have nu:bC.run (mT bC) ((i:Int),a,b,0,N.stops.map Stop.pv,N.au.map aG.pv,N.runs.map dS.pv,l.map bg.pv,N.paths.map Path.pv,N.aR.map aH.pv,N.bu,N.within,N.cap,())=if((List.range (i+1)).any fun t=>decide (it (nx (l.take i)) (t+1) a=some b))=true then some (PV.bool true)else some (PV.bool false):=by
  refine tG (fun t:Nat=>((i:Int),(it (nx (l.take i)) t a).getD (-1),b,(t:Int),N.stops.map Stop.pv,N.au.map aG.pv,N.runs.map dS.pv,l.map bg.pv,N.paths.map Path.pv,N.aR.map aH.pv,N.bu,N.within,N.cap,())) (i+1) (fun t=>decide (it (nx (l.take i)) (t+1) a=some b)) (no:=some (PV.bool true)) (fin:=some (PV.bool false)) (fun t ht rec=>?_) (fun rec=>?_) (by have:=bf;omega) rfl
  ·have h1:decide ((t:Int)≤(i:Int))=true:=by simp;omega
   unfold mT;dsimp only;rw[if_pos h1,ow,De,ai (by omega)];cases hv:it (nx (l.take i)) (t+1) a with
   |none=>rw[if_neg (by simp only[Option.getD_none];omega),if_neg (by simp)]
   |some v=>
    by_cases Yi:v=b
    ·rw[if_pos (by simpa using Yi),if_pos (by simpa using Yi)]
    ·rw[if_neg (by simpa using Yi),if_neg (by simpa using Yi)]
  ·unfold mT;dsimp only;rw[if_neg (by simp;omega)]
 rw[nu];cases(List.range (i+1)).any fun t=>decide (it (nx (l.take i)) (t+1) a=some b)<;>rfl
theorem SQ(l:List bg)(P:bg→Bool)(k:Nat)(hk:k≤l.length):((List.range k).any fun j=>(l[j]?).elim false P)=(l.take k).any P:=by
 induction k with
 |zero=>rfl
 |succ k ih=>
  have qz:k<l.length:=by omega
  rw[List.range_succ,List.any_append,ih (by omega),List.take_succ_eq_append_getElem qz,List.any_append];simp only[List.any_cons,List.any_nil,List.getElem?_eq_getElem qz,Option.elim]
theorem VX(N:ag)(hr:N.runs.length≤maxLen∧∀y∈N.runs,y.Ok)(hl:N.aJ.length≤maxLen)(k:Nat)(hk:k<N.aJ.length)(Ft:∀j,j<k→cN N.runs N.aJ j=0):mU [N.pv,.int .i64 k]=some (.int .i64 (cN N.runs N.aJ k)):=by
 have hm:=aY;obtain⟨_,ec⟩:=EX N.runs N.aJ k (by omega) Ft;have Bh:=fun a b hb=>SP N k hk hl ec a b hb;have hE:=l8 N;simp only[mU,yG,gL,gM,gN,gO,gP,gQ,gR,gS,gT,gU,U];rw[←l8 N]at Bh;generalize LH:N.aJ=l at hl hk ec Bh⊢;generalize yb:N.runs=runs at hr Bh⊢;have hw0:IntKind.i64.wrap ((runs.length:Int)-1)=(runs.length:Int)-1:=bF (by omega) (by omega);simp only[asInt,if_true,U,aQ,List.getElem?_map,List.getElem?_eq_getElem hk,Option.map_some,Ez,J4,link2,J5,GP,asBool,List.length_map,hw0,EP,aW,ga];unfold cN;rw[List.getElem?_eq_getElem hk];simp only;have hR:(!(decide (l[k].a≥0)&&decide (l[k].a≤(runs.length:Int)-1))|| !(decide (l[k].b≥0)&&decide (l[k].b≤(runs.length:Int)-1))||decide (l[k].a=l[k].b))=EW l[k] runs.length:=by unfold EW;rw[Bool.eq_iff_iff];simp only[Bool.or_eq_true,Bool.not_eq_true',Bool.and_eq_false_iff,decide_eq_true_eq,decide_eq_false_iff_not];omega
 rw[hR];cases hb:EW l[k] runs.length with
 |true=>simp only[if_true]
 |false=>
  unfold EW at hb;simp only[Bool.or_eq_false_iff,Bool.not_eq_false',Bool.and_eq_true,decide_eq_true_eq,decide_eq_false_iff_not]at hb;obtain⟨ra,hra,hia,hca⟩:=zV runs l[k].a ⟨hb.1.1.1,hb.1.1.2⟩;obtain⟨rb,LO,Y3,Oz⟩:=zV runs l[k].b ⟨hb.1.2.1,hb.1.2.2⟩;have hA:=wA hr.2 l[k].a;have hB:=wA hr.2 l[k].b;rw[hia,Y3];simp only[U,zJ,aa,if_true,List.length_map,←hca,←Oz];have hwA:IntKind.i64.wrap (((bq runs l[k].a).length:Int)-1)=((bq runs l[k].a).length:Int)-1:=bF (by omega) (by omega);have hwB:IntKind.i64.wrap (((bq runs l[k].b).length:Int)-1)=((bq runs l[k].b).length:Int)-1:=bF (by omega) (by omega);simp only[hwA,hwB,EP,asBool,U,aW];have hC:(!(decide (l[k].ac≥0)&&decide (l[k].ac≤((bq runs l[k].a).length:Int)-1))|| !(decide (l[k].bc≥0)&&decide (l[k].bc≤((bq runs l[k].b).length:Int)-1)))=B9 l[k] (bq runs l[k].a).length (bq runs l[k].b).length:=by unfold B9;rw[Bool.eq_iff_iff];simp only[Bool.or_eq_true,Bool.not_eq_true',Bool.and_eq_false_iff,decide_eq_true_eq,decide_eq_false_iff_not];omega
  rw[hC];cases El:B9 l[k] (bq runs l[k].a).length (bq runs l[k].b).length with
  |true=>simp only[if_true,Bool.false_eq_true,if_false]
  |false=>
   unfold B9 at El;simp only[Bool.or_eq_false_iff,Bool.not_eq_false',Bool.and_eq_true,decide_eq_true_eq]at El;obtain⟨ka,hka,hsa⟩:=xb (bq runs l[k].a) l[k].ac El.1;obtain⟨kb,hkb,hsb⟩:=xb (bq runs l[k].b) l[k].bc El.2;simp only[Bool.false_eq_true,if_false,hka,hkb,U,hsa,hsb,asInt,asBool,if_true,aW,aZ,pD];by_cases oQ:wz (bq runs l[k].a) l[k].ac=wz (bq runs l[k].b) l[k].bc
   ·simp only[oQ,decide_true,Bool.not_true,Bool.false_eq_true,if_false,ne_eq,not_true];have EA:bC.run oh ((k:Int),0,N.stops.map Stop.pv,N.au.map aG.pv,runs.map dS.pv,l.map bg.pv,N.paths.map Path.pv,N.aR.map aH.pv,N.bu,N.within,N.cap,.int .i64 l[k].a,.int .i64 l[k].ac,.int .i64 l[k].b,.int .i64 l[k].bc,.bool l[k].stay,())=if cZ l[k]∈(l.map cZ).take k then some (.int .i64 6)else some (.int .i64 0):=by
     refine(tG (fun j=>((k:Int),(j:Int),N.stops.map Stop.pv,N.au.map aG.pv,runs.map dS.pv,l.map bg.pv,N.paths.map Path.pv,N.aR.map aH.pv,N.bu,N.within,N.cap,PV.int .i64 l[k].a,PV.int .i64 l[k].ac,PV.int .i64 l[k].b,PV.int .i64 l[k].bc,PV.bool l[k].stay,())) k (fun j=>decide ((l.map cZ)[j]?=some (cZ l[k]))) (no:=some (.int .i64 6)) (fin:=some (.int .i64 0)) (fun j hj rec=>?_) (fun rec=>?_) (by have:=bf;omega) rfl).trans ?_
     ·have h1:decide ((j:Int)<(k:Int))=true:=by simp;omega
      have I2:j<l.length:=by omega
      have hd:decide ((l.map cZ)[j]?=some (cZ l[k]))=(decide (l[j].a=l[k].a)&&decide (l[j].ac=l[k].ac)&&decide (l[j].b=l[k].b)&&decide (l[j].bc=l[k].bc)):=by rw[Bool.eq_iff_iff];simp[List.getElem?_eq_getElem I2,cZ,and_assoc]
      rw[hd];unfold oh;dsimp only;rw[if_pos h1,aQ,List.getElem?_map,List.getElem?_eq_getElem I2];simp only[Option.map_some,U,Ez,J4,link2,J5,asInt,if_true,ai (show j<9223372036854775807 by omega),ga,aZ]
     ·unfold oh;dsimp only;rw[if_neg (by simp)]
     ·rw[CO _ _ (by simp;omega)];simp only[decide_eq_true_eq]
    have afS:bC.run (oi bC) ((k:Int),0,N.stops.map Stop.pv,N.au.map aG.pv,runs.map dS.pv,l.map bg.pv,N.paths.map Path.pv,N.aR.map aH.pv,N.bu,N.within,N.cap,.int .i64 l[k].a,.int .i64 l[k].ac,.int .i64 l[k].b,.int .i64 l[k].bc,.bool l[k].stay,())=if(l[k].stay&&((nx (l.take k) l[k].a).isSome||decide (l[k].b∈nj (l.take k))))=true then some (.int .i64 19)else if(l[k].stay&&rA (l.take k) l[k].b l[k].a (k+1))=true then some (.int .i64 19)else if cZ l[k]∈(l.map cZ).take k then some (.int .i64 6)else some (.int .i64 0):=by
     refine(tG (fun j=>((k:Int),(j:Int),N.stops.map Stop.pv,N.au.map aG.pv,runs.map dS.pv,l.map bg.pv,N.paths.map Path.pv,N.aR.map aH.pv,N.bu,N.within,N.cap,PV.int .i64 l[k].a,PV.int .i64 l[k].ac,PV.int .i64 l[k].b,PV.int .i64 l[k].bc,PV.bool l[k].stay,())) k (fun j=>(l[j]?).elim false fun y=>l[k].stay&&y.stay&&(decide (y.a=l[k].a)||decide (y.b=l[k].b))) (no:=some (.int .i64 19)) (fin:=if(l[k].stay&&rA (l.take k) l[k].b l[k].a (k+1))=true then some (.int .i64 19)else if cZ l[k]∈(l.map cZ).take k then some (.int .i64 6)else some (.int .i64 0)) (fun j hj rec=>?_) (fun rec=>?_) (by have:=bf;omega) rfl).trans ?_
     ·have h1:decide ((j:Int)<(k:Int))=true:=by simp;omega
      have I2:j<l.length:=by omega
      rw[List.getElem?_eq_getElem I2];unfold oi;dsimp only;rw[if_pos h1,aQ,List.getElem?_map,List.getElem?_eq_getElem I2];simp only[Option.map_some,U,Ez,link2,GP,asInt,asBool,if_true,ai (show j<9223372036854775807 by omega),ga,aZ,aW,Option.elim];rfl
     ·unfold oi;dsimp only;rw[if_neg (by simp),EA];have:=Bh l[k].b l[k].a (by have:=hb.1.1.1;omega);simp only[asBool,asInt,if_true,U,this,aZ]
     ·rw[SQ l _ k (by omega)];have aat:((l.take k).any fun y=>l[k].stay&&y.stay&&(decide (y.a=l[k].a)||decide (y.b=l[k].b)))=(l[k].stay&&((nx (l.take k) l[k].a).isSome||decide (l[k].b∈nj (l.take k)))):=by
       rw[SO,VW];cases l[k].stay with
       |false=>simp
       |true=>
        rw[Bool.eq_iff_iff];simp only[Bool.true_and,Bool.or_eq_true,List.any_eq_true,Bool.and_eq_true,decide_eq_true_eq];constructor
        ·rintro⟨x,h1,h2,h3|h3⟩
         ·exact Or.inl ⟨x,h1,h2,h3⟩
         ·exact Or.inr ⟨x,h1,h2,h3⟩
        ·rintro(⟨x,h1,h2,h3⟩|⟨x,h1,h2,h3⟩)
         ·exact⟨x,h1,h2,Or.inl h3⟩
         ·exact⟨x,h1,h2,Or.inr h3⟩
      rw[aat]
    rw[afS];have hlen:(l.take k).length=k:=by simp;omega
    have hac:decide (l[k].ac=((bq runs l[k].a).length:Int)-1)=decide (l[k].ac+1=((bq runs l[k].a).length:Int)):=by rw[Bool.eq_iff_iff];simp only[decide_eq_true_eq];omega
    rw[hac];unfold Ca;rw[hlen];generalize (!decide (l[k].ac+1=((bq runs l[k].a).length:Int)))=X1;generalize (!decide (l[k].bc=0))=X2;generalize (nx (l.take k) l[k].a).isSome=X3;generalize decide (l[k].b∈nj (l.take k))=X4;generalize rA (l.take k) l[k].b l[k].a (k+1)=X5;by_cases bJ:cZ l[k]∈(l.map cZ).take k
    ·simp only[bJ,if_true];cases l[k].stay<;>cases X1<;>cases X2<;>cases X3<;>cases X4<;>cases X5<;>rfl
    ·simp only[bJ,if_false];cases l[k].stay<;>cases X1<;>cases X2<;>cases X3<;>cases X4<;>cases X5<;>rfl
   ·simp only[oQ,decide_false,Bool.not_false,if_true,ne_eq,not_false_eq_true,Bool.false_eq_true,if_false]
end Go.Ab.Tt
namespace Go.Ab.Tt
set_option maxRecDepth 100000
set_option linter.unusedVariables false
set_option linter.unusedSimpArgs false
def j3(N:ag):Int×Int×Int:=
 if(gW N.stops).2=0 then
  if(gw N.au).2=0 then
   if(pN N.runs N.stops.length N.au.length).2=0 then
    if(mD N.runs N.aJ).2=0 then
     if(cT N.paths N.stops.length).2=0 then if(dd N.aR N.bu N.within N.cap).2=0 then(0,0,0)else(5,dd N.aR N.bu N.within N.cap)
     else(4,cT N.paths N.stops.length)
    else(3,mD N.runs N.aJ)
   else(2,pN N.runs N.stops.length N.au.length)
  else(1,gw N.au)
 else(0,gW N.stops)
def gH(x:Int×Int×Int):PV:=.bt [.int .i64 x.1,.int .i64 x.2.1,.int .i64 x.2.2]
theorem r3E(p i e:Int):PV.agg [cell (r3 p i e) 0,cell (r3 p i e) 1,cell (r3 p i e) 2]=r3 p i e:=rfl
theorem ZH(p i e:Int):PV.agg [.int .i64 p,.int .i64 i,.int .i64 e]=r3 p i e:=rfl
theorem wB(p i e q j f:Int):du [.rs 3 [r3 p i e,r3 q j f]]=some (if e=0 then(if f=0 then r3 0 0 0 else r3 q j f)else r3 p i e):=by
 simp only[du,sA,aa,if_true,U];have h0:=bL (body:=iC) (fun k=>([r3 p i e,r3 q j f],(2:Int),(k:Int),0,0,0,())) 2 (fun k=>if k=0 then(if e=0 then none else some (some (r3 p i e)))else(if f=0 then none else some (some (r3 q j f)))) (fin:=some (r3 0 0 0)) (fun k hk rec=>?_) (fun rec=>?_) (by decide) (s0:=([r3 p i e,r3 q j f],(2:Int),0,0,0,0,())) rfl
 ·refine h0.trans ?_;have:List.range 2=[0,1]:=rfl;rw[this];by_cases he:e=0
  ·by_cases hf:f=0<;>simp[he,hf,gb]
  ·simp[he,gb]
 ·have h2:k=0∨k=1:=by omega
  rcases h2 with rfl|rfl
  ·unfold iC;dsimp only;rw[if_pos (by simp),aQ];simp only[List.getElem?_cons_zero,U,zR,asInt,if_true,pD,r3E,ai (show 0<9223372036854775807 by omega)];by_cases he:e=0
   ·simp only[he,decide_true,Bool.not_true,Bool.false_eq_true,if_false,if_true];rfl
   ·simp only[he,decide_false,Bool.not_false,if_false,if_true];rfl
  ·unfold iC;dsimp only;rw[if_pos (by simp),aQ];simp only[List.getElem?_cons_succ,List.getElem?_cons_zero,U,zR,asInt,if_true,pD,r3E,ai (show 1<9223372036854775807 by omega)];by_cases he:f=0
   ·simp only[he,decide_true,Bool.not_true,Bool.false_eq_true,if_false,if_true];rfl
   ·simp only[he,decide_false,Bool.not_false,if_false,if_true];rfl
 ·unfold iC;dsimp only;rw[if_neg (by simp)];rfl
theorem O0(p:Int)(x:Int×Int):prt p x=if x.2=0 then r3 0 0 0 else r3 p x.1 x.2:=rfl
theorem A3{l:List Stop}(h:(gW l).2=0):l.length≤64:=by
 unfold gW at h;by_cases xl:l.length>64
 ·rw[if_pos xl]at h;cases h
 ·omega
theorem EY(a b:Int):(a==b)=decide (a=b):=ga a b
theorem Es(N:ag)(h:N.Ok)(hp:N.paths.length≤4096):gn [N.pv]=some (gH (j3 N)):=by
 have hs:=SF N.stops h.stops;have hr:=OM N.au h.au;have hu:=Ik N h.runs;have hl:=FD N h.runs h.aJ.1;have hf:=yP N.aR N.bu N.within N.cap h.aR;unfold df at hf;simp only[gn,sG,gL,gM,gN,gO,gP,gQ,gR,gS,gT,gU,U,l8];simp only[hs,hr,hf,hu,hl,U,res,cP,List.length_cons,List.length_nil,Nat.reduceAdd,if_true,List.getD_cons_zero,List.getD_cons_succ,ES,QW,ZH,wB];unfold j3;by_cases h1:(gW N.stops).2=0
 ·have hpa:=FC N (A3 h1) hp;simp only[hpa,U,h1,if_true];by_cases h2:(gw N.au).2=0
  ·simp only[h2,if_true];rw[O0 2,O0 3,O0 4];by_cases h3:(pN N.runs N.stops.length N.au.length).2=0
   ·simp only[h3,if_true];by_cases h4:(mD N.runs N.aJ).2=0
    ·simp only[h4,if_true];by_cases h5:(cT N.paths N.stops.length).2=0
     ·simp only[h5,if_true];by_cases h6:(dd N.aR N.bu N.within N.cap).2=0
      ·simp only[h6,if_true,QW,ZH,sL,rI,zR,asInt,U,wB,EY,decide_true,decide_false,Bool.false_eq_true,gH]
      ·simp only[h6,if_true,if_false,QW,ZH,sL,rI,zR,asInt,U,wB,EY,decide_true,decide_false,Bool.false_eq_true,gH]
     ·simp only[h5,if_true,if_false,QW,ZH,sL,rI,zR,asInt,U,wB,EY,decide_true,decide_false,Bool.false_eq_true,gH]
    ·simp only[h4,if_true,if_false,QW,ZH,sL,rI,zR,asInt,U,wB,EY,decide_true,decide_false,Bool.false_eq_true,gH]
   ·simp only[h3,if_true,if_false,QW,ZH,sL,rI,zR,asInt,U,wB,EY,decide_true,decide_false,Bool.false_eq_true,gH]
  ·simp only[h2,if_true,if_false,QW,ZH,sL,rI,zR,asInt,U,wB,EY,decide_true,decide_false,Bool.false_eq_true,gH]
 ·simp only[h1,if_true,if_false,QW,ZH,sL,rI,zR,asInt,U,wB,EY,decide_true,decide_false,Bool.false_eq_true,gH]
theorem Io(N:ag)(h:N.Ok)(hn:N.stops.length≤64)(hp:N.paths.length≤4096):bC.run mV (0,N.stops.map Stop.pv,N.au.map aG.pv,N.runs.map dS.pv,N.aJ.map bg.pv,N.paths.map Path.pv,N.aR.map aH.pv,N.bu,N.within,N.cap,())=some (gH (if(bN (cN N.runs N.aJ) N.aJ.length).2=0 then
  if(cT N.paths N.stops.length).2=0 then if(dd N.aR N.bu N.within N.cap).2=0 then(0,0,0)else(5,dd N.aR N.bu N.within N.cap)
  else(4,cT N.paths N.stops.length)
 else(3,bN (cN N.runs N.aJ) N.aJ.length))):=by
 have hm:=aY
 have Ub:=h.aJ.1
 have hpa:=SM N hn hp
 have hf:=SH N.aR N.bu N.within N.cap h.aR
 unfold df at hf
 have hg:=js (cN N.runs N.aJ) N.aJ.length (fun i e=>gH (3,i,e)) (some (gH (if(cT N.paths N.stops.length).2=0 then if(dd N.aR N.bu N.within N.cap).2=0 then(0,0,0)else(5,dd N.aR N.bu N.within N.cap)else(4,cT N.paths N.stops.length))))
 have hR:(if(bN (cN N.runs N.aJ) N.aJ.length).2=0 then(some (gH (if(cT N.paths N.stops.length).2=0 then if(dd N.aR N.bu N.within N.cap).2=0 then(0,0,0)else(5,dd N.aR N.bu N.within N.cap)else(4,cT N.paths N.stops.length))))else some (gH (3,(bN (cN N.runs N.aJ) N.aJ.length).1,(bN (cN N.runs N.aJ) N.aJ.length).2)))=some (gH (if(bN (cN N.runs N.aJ) N.aJ.length).2=0 then
   if(cT N.paths N.stops.length).2=0 then if(dd N.aR N.bu N.within N.cap).2=0 then(0,0,0)else(5,dd N.aR N.bu N.within N.cap)
   else(4,cT N.paths N.stops.length)
  else(3,bN (cN N.runs N.aJ) N.aJ.length))):=by
  by_cases hz:(bN (cN N.runs N.aJ) N.aJ.length).2=0
  ·rw[if_pos hz,if_pos hz]
  ·rw[if_neg hz,if_neg hz]
 rw[←hR,←hg]
 refine xS (fun k=>((k:Int),N.stops.map Stop.pv,N.au.map aG.pv,N.runs.map dS.pv,N.aJ.map bg.pv,N.paths.map Path.pv,N.aR.map aH.pv,N.bu,N.within,N.cap,())) N.aJ.length _ (fun k hk Ft rec=>?_) (fun _ rec=>?_) (by have:=bf;omega) rfl
 ·have acu:∀j,j<k→cN N.runs N.aJ j=0:=fun j hj=>by
   have:=Ft j hj;by_cases h0:cN N.runs N.aJ j=0
   ·exact h0
   ·rw[if_neg h0]at this;cases this
  have Zf:=VX N h.runs Ub k hk acu;have h1:decide ((k:Int)<((N.aJ.map bg.pv).length:Int))=true:=by simp;omega
  unfold mV;dsimp only;rw[if_pos h1,l8,Zf];simp only[U,asInt,if_true,pD,ai (show k<9223372036854775807 by omega)];by_cases he:cN N.runs N.aJ k=0
  ·simp only[he,decide_true,Bool.not_true,Bool.false_eq_true,if_false,if_true];rfl
  ·simp only[he,decide_false,Bool.not_false,if_false,if_true];rfl
 ·unfold mV;dsimp only;rw[if_neg (by simp),l8,hpa];simp only[U,res,cP,List.length_cons,List.length_nil,Nat.reduceAdd,if_true,List.getD_cons_zero,List.getD_cons_succ,asInt,pD,hf];by_cases h5:(cT N.paths N.stops.length).2=0
  ·simp only[h5,decide_true,Bool.not_true,Bool.false_eq_true,if_false,if_true];by_cases h6:(dd N.aR N.bu N.within N.cap).2=0
   ·simp only[h6,decide_true,Bool.not_true,Bool.false_eq_true,if_false,if_true,gH]
   ·simp only[h6,decide_false,Bool.not_false,Bool.false_eq_true,if_false,if_true,gH]
  ·simp only[h5,decide_false,Bool.not_false,Bool.false_eq_true,if_false,if_true,gH]
theorem Sk(N:ag)(h:N.Ok)(hp:N.paths.length≤4096):lk [N.pv]=some (gH (j3 N)):=by
 have hm:=aY;have cq:4096≤maxLen:=by decide
 have hs:=SG N.stops h.stops;have hr:=ON N.au h.au;simp only[lk,wb,gL,gM,gN,gO,gP,gQ,gR,gS,gT,gU,U];simp only[hs,hr,U,res,cP,List.length_cons,List.length_nil,Nat.reduceAdd,if_true,List.getD_cons_zero,List.getD_cons_succ,asInt,pD];unfold j3;by_cases h1:(gW N.stops).2=0
 ·have sP:=Io N h (A3 h1) hp;simp only[h1,decide_true,Bool.not_true,Bool.false_eq_true,if_false,if_true];by_cases h2:(gw N.au).2=0
  ·simp only[h2,decide_true,Bool.not_true,Bool.false_eq_true,if_false,if_true];unfold pN;by_cases xl:N.runs.length>1024
   ·rw[if_pos (by simp;omega),if_pos xl];rfl
   ·rw[if_neg (by simp;omega),if_neg xl];generalize hE:kL N.runs N.stops.length N.au.length=E;generalize hF:(if(mD N.runs N.aJ).2=0 then
     if(cT N.paths N.stops.length).2=0 then if(dd N.aR N.bu N.within N.cap).2=0 then((0:Int),(0:Int),(0:Int))else(5,dd N.aR N.bu N.within N.cap)
     else(4,cT N.paths N.stops.length)
    else(3,mD N.runs N.aJ))=F
    have hg:=js E N.runs.length (fun i e=>gH (2,i,e)) (some (gH F));have hR:(if(bN E N.runs.length).2=0 then some (gH F)else some (gH (2,(bN E N.runs.length).1,(bN E N.runs.length).2)))=some (gH (if(bN E N.runs.length).2=0 then F else(2,bN E N.runs.length))):=by
     by_cases hz:(bN E N.runs.length).2=0
     ·rw[if_pos hz,if_pos hz]
     ·rw[if_neg hz,if_neg hz]
    rw[←hR,←hg];refine bL (fun k=>((k:Int),N.stops.map Stop.pv,N.au.map aG.pv,N.runs.map dS.pv,N.aJ.map bg.pv,N.paths.map Path.pv,N.aR.map aH.pv,N.bu,N.within,N.cap,())) N.runs.length _ (fun k hk rec=>?_) (fun rec=>?_) (by have:=bf;omega) rfl
    ·have Cj:=Yg N h.runs k hk;rw[hE]at Cj;have h1:decide ((k:Int)<((N.runs.map dS.pv).length:Int))=true:=by simp;omega
     unfold rB;dsimp only;rw[if_pos h1,l8,Cj];simp only[U,asInt,if_true,pD,ai (show k<9223372036854775807 by omega)];by_cases he:E k=0
     ·simp only[he,decide_true,Bool.not_true,Bool.false_eq_true,if_false,if_true];rfl
     ·simp only[he,decide_false,Bool.not_false,if_false,if_true];rfl
    ·unfold rB;dsimp only;rw[if_neg (by simp),←hF];unfold mD;by_cases WG:N.aJ.length>1024
     ·rw[if_pos (by simp;omega),if_pos WG];rfl
     ·rw[if_neg (by simp;omega),if_neg WG,sP]
  ·simp only[h2,decide_false,Bool.not_false,Bool.false_eq_true,if_false,if_true,gH]
 ·simp only[h1,decide_false,Bool.not_false,Bool.false_eq_true,if_false,if_true,gH]
end Go.Ab.Tt
namespace Go.Ab.Tt
set_option maxRecDepth 100000
set_option linter.unusedVariables false
set_option linter.unusedSimpArgs false
theorem Et{N:ag}(h:(j3 N).2.2=0):∀k,k<N.runs.length→kL N.runs N.stops.length N.au.length k=0:=by
 unfold j3 at h;by_cases h1:(gW N.stops).2=0
 ·rw[if_pos h1]at h;by_cases h2:(gw N.au).2=0
  ·rw[if_pos h2]at h;by_cases h3:(pN N.runs N.stops.length N.au.length).2=0
   ·unfold pN at h3;by_cases xl:N.runs.length>1024
    ·rw[if_pos xl]at h3;cases h3
    ·rw[if_neg xl]at h3;exact(nJ _ _).1 h3
   ·rw[if_neg h3]at h;exact absurd h h3
  ·rw[if_neg h2]at h;exact absurd h h2
 ·rw[if_neg h1]at h;exact absurd h h1
theorem wo{N:ag}(h:(j3 N).2.2=0):∀r∈N.runs,(ja r.calls N.stops.length 0 3155932800).2=0:=by
 intro r hr;obtain⟨k,hk,rfl⟩:=List.getElem_of_mem hr;have:=Et h k hk;unfold kL at this;rw[List.getElem?_eq_getElem hk]at this;simp only at this;by_cases hc:(ja N.runs[k].calls N.stops.length 0 3155932800).2=0
 ·exact hc
 ·rw[if_neg hc]at this;split at this
  ·cases this
  ·split at this
   ·cases this
   ·split at this
    ·cases this
    ·split at this
     ·cases this
     ·exact absurd this hc
theorem B3{l:List cO}{n a b:Int}(h:(ja l n a b).2=0):2≤l.length∧l.length≤32:=by
 unfold ja at h;by_cases hc:(decide ((l.length:Int)<2)||decide ((l.length:Int)>32))=true
 ·rw[if_pos hc]at h;cases h
 ·simp only[Bool.or_eq_true,decide_eq_true_eq,not_or]at hc;omega
theorem JY{l:List cO}{n a b:Int}(h:(ja l n a b).2=0):∀k,k<l.length→uE l n a b k=0:=by
 unfold ja at h;by_cases hc:(decide ((l.length:Int)<2)||decide ((l.length:Int)>32))=true
 ·rw[if_pos hc]at h;cases h
 ·rw[if_neg hc]at h;exact(nJ _ _).1 h
end Go.Ab.Tt
