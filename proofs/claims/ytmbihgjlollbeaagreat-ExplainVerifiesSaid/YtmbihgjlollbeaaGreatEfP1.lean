import Derived.Test.YtmbihgjlollbeaaGreatRnP1
import Derived.Test.YtmbihgjlollbeaaGreatEkO
namespace Go.Ab.Tt
set_option maxRecDepth 100000
set_option linter.all false
structure FX(T:ay):Prop where
 stops:T.stops.length≤70
 dp:T.dp.length≤70
 jK:T.jK.length≤40
 ae:T.ae.length≤12
 bV:T.bV.length≤100
 small:Small T
def fQ(T:ay)(r:cy):Option Int:=
 if r.bD= -1 then some (-1)else if r.bD<0 then none else match T.ae[r.bD.toNat]? with
 |none=>none
 |some x=>if x.id=r.id then(if yF T.dp T.jK x.wI r.day=true then(if EU T.bV r.bD=true then(if r.inst<0 then none else(instI T.bV r.bD)[r.inst.toNat]?)else if r.inst=0 then some (-1)else none)else none)else none
def rZ(T:ay)(r:cy)(s:Int):List aY:=if r.bD<0 then[]else match T.ae[r.bD.toNat]? with
 |none=>[]
 |some x=>if s≥0 then ve x.calls s else x.calls
theorem ahd(s:Bytes):aO (.str s)=some s:=rfl
variable{T:ay}
theorem ac6{i:Int}(h0:¬i<0)(h1:¬i≥(T.ae.length:Int)):∃x,T.ae[i.toNat]?=some x∧dB (T.ae.map br.pv) i=some x.pv:=by
 have h:i.toNat<T.ae.length:=by omega
 exact⟨_,cN h,aV br.pv (by omega) (cN h)⟩
theorem It(T:ay)(sJ:T.Ok)(hT:FX T)(r:cy):∃s,lu [T.pv,r.pv]=some (.aG [.int .i64 s,.bool (fQ T r).isSome])∧∀v,fQ T r=some v→s=v:=by
 have hm:=ai;have hmx:maxLen=9223372036854775807:=rfl;have hc:=hT.dp;have hx:=hT.jK;have hf:=hT.bV;simp only[lu,C3,ttA,tt0,tt1,tt2,tt3,tt4,tt5,tt6,tt7,tt8,tt9,Iu,Iv,Iw,ahe,pC,UI,UJ,UK,J4,UL,UM,C4,aS,aI,aB,ahd,U,AI,bT,cT,az];unfold fQ;by_cases h1:r.bD= -1
 ·simp_all
 rw[IS h1,IS h1];by_cases h2:r.bD<0
 ·simp_all
 rw[IS h2];by_cases h3:r.bD≥(T.ae.length:Int)
 ·simp_all
 obtain⟨x,hx1,hx2⟩:=ac6 h2 h3;rw[IS (by simp[h2,h3]),hx2,hx1];have e0:aO (cell x.pv 0)=some x.id:=rfl;have e2:Ab.asInt .i64 (cell x.pv 2)=some x.wI:=rfl;simp only[U,e0,e2,UN T.dp (by omega) T.jK (by omega),aB,aas T.bV (by omega),ac7 T.bV (by omega),aS,AI];by_cases h4:x.id=r.id
 ·by_cases h5:yF T.dp T.jK x.wI r.day=true
  ·simp only[h4,h5,asv,ahX,cond_false,U,cQ,IT,BY];by_cases h6:EU T.bV r.bD=true
   ·simp only[h6,ahX,cQ,IT,BY];by_cases h7:r.inst<0
    ·simp_all
    ·by_cases h8:r.inst≥((instI T.bV r.bD).length:Int)
     ·simp_all
     ·have hi:r.inst.toNat<(instI T.bV r.bD).length:=by omega
      rw[IS (by simp[h7,h8]),IS h7,aV iv (by omega) (cN hi),cN hi];refine⟨(instI T.bV r.bD)[r.inst.toNat],rfl,fun v h=>by cases h;rfl⟩
   ·simp only[h6,asw,BY,cQ,IT];refine⟨-1,?_,fun v h=>?_⟩
    ·grind
    simp_all
  simp_all
 simp_all
section
variable {K:Type} [DecidableEq K]
def LU(a:K)(m:List (K×PV)):Bool:=m.any fun x=>decide (a=x.1)
theorem Hd(a b:K)(v:PV):∀m:List (K×PV),LU a (C5 b v m)=(decide (a=b)||LU a m)
 |[]=>by rfl
 |(c,u)::r=>by
  simp only[C5];by_cases h:b=c
  ·subst h;simp[LU]
  ·have:=Hd a b v r;unfold LU at this⊢;grind
variable {key:K→PV} (hk:∀a b,cz (key a).cells (key b).cells=decide (a=b))
include hk
theorem RV(a:K):∀m,yj (key a) (rK key m)=LU a m
 |[]=>rfl
 |(b,u)::r=>by have:=RV a r;simp only[rK]at this;simp only[rK,ass,yj,hk,LU,aud,this]
end
theorem LV{A B:Type}:∀m:List (A×B),(m.map fun x=>x.fst).zip (m.map fun x=>x.snd)=m
 |[]=>rfl
 |(a,b)::r=>by simp[ass,auO,LV]
def iq(l:List br):Nat→List (Bytes×PV)
 |0=>[]
 |k+1=>match l[k]? with
  |some x=>C5 x.id (.int .i64 k) (iq l k)
  |none=>iq l k
theorem C6(l:List br)(a:Bytes):∀k,LU a (iq l k)=true↔∃j x,j<k∧l[j]?=some x∧x.id=a
 |0=>by simp[iq,LU]
 |k+1=>by
  have ih:=C6 l a k;unfold iq;constructor
  ·intro h;split at h
   ·rename_i x hx;rw[Hd,asz,cT]at h;grind
   grind
  ·rintro⟨j,y,h1,h2,h3⟩;by_cases e:j=k
   ·simp_all[Hd]
   ·have:=ih.2 ⟨j,y,by omega,h2,h3⟩;split
    ·rw[Hd,this,ave]
    omega
theorem Bo{T:ay}(hV:zp T){j:Nat}{x:br}(hx:T.ae[j]?=some x)(z:PV):∀k,j<k→yG x.id z (iq T.ae k)=.int .i64 j
 |0,h=>by omega
 |k+1,h=>by
  unfold iq;by_cases e:j=k
  ·subst e;rw[hx];simp only;rw[vR,IN rfl]
  ·have ih:=Bo hV hx z k (by omega);split
   ·rename_i y hy;rw[vR,IS (fun hh=>e (ahf hV hx hy hh)),ih]
   omega
def wJ(T:ay):List PV:=(rK PV.str (iq T.ae T.ae.length)).map fun x=>x.fst
def wK(T:ay):List PV:=(rK PV.str (iq T.ae T.ae.length)).map fun x=>x.snd
theorem ac8(T:ay)(hT:FX T):oc [T.pv]=some (.rm 9 (wJ T) (wK T)):=by
 have ht:=hT.ae;simp only[oc,zq,ttA,tt0,tt1,tt2,tt3,tt4,tt5,tt6,tt7,tt8,tt9,Iu,Iv,Iw,aS,aI,U,AI];refine bg (fun k=>(T.ae.map br.pv,(T.ae.length:Int),(k:Int),rK PV.str (iq T.ae k),())) T.ae.length (fun k hk rec=>?_) (fun rec=>?_) (by unfold rounds;omega) rfl
 ·unfold sa;dsimp only;have e0:aO (cell (T.ae[k]).pv 0)=some (T.ae[k]).id:=rfl;rw[IN (by simp;omega),bn br.pv T.ae k hk,ab (by omega)];simp_all[U,Ko,mU,iq,cN]
 ·unfold sa;dsimp only;rw[IS (by simp)];rfl
theorem aat(a:Bytes)(z:PV):cB (.str a) z ((wJ T).zip (wK T))=yG a z (iq T.ae T.ae.length):=by simp[wJ,wK,LV,He,mU]
theorem ac9(a:Bytes):yj (.str a) ((wJ T).zip (wK T))=LU a (iq T.ae T.ae.length):=by simp[wJ,wK,LV,RV,mU]
theorem Oz{l:List br}(a:Bytes):∀k,∃n,yG a (.int .i64 0) (iq l k)=.int .i64 n
 |0=>⟨0,rfl⟩
 |k+1=>by
  obtain⟨n,hn⟩:=Oz (l:=l) a k;unfold iq;split
  ·rw[vR];grind
  ·exact⟨n,hn⟩
theorem UO(T:ay)(sJ:T.Ok)(hT:FX T)(hV:zp T)(r:cy):∃(a s:Int)(cs:PV),lN [T.pv,.rm 9 (wJ T) (wK T),r.pv]=some (.aG [.agg [.int .i64 a,.int .i64 s,cs],.bool (fQ T r).isSome])∧∀v,fQ T r=some v→a=r.bD∧s=v∧ao 5 cs=some ((rZ T r v).map aY.pv):=by
 have hm:=ai;have hmx:maxLen=9223372036854775807:=rfl;have hc:=hT.dp;have hx:=hT.jK;have hf:=hT.bV;simp only[lN,ua,da,ttA,tt0,tt1,tt2,tt3,tt4,tt5,tt6,tt7,tt8,tt9,Iu,Iv,Iw,ahe,pC,UI,UJ,UK,J4,UL,UM,C4,aS,aI,aB,ahd,U,AI,bT,eC,cT,az,BY,aat,ac9];by_cases h1:r.bD= -1
 ·unfold fQ;rw[IN h1,IN h1];refine⟨-1,-1,.rs 0 [],rfl,fun v h=>?_⟩;cases h;refine⟨h1.symm,rfl,?_⟩;unfold rZ;rw[IN (by omega)];rfl
 rw[IS h1];obtain⟨n,hn⟩:=Oz (l:=T.ae) r.id T.ae.length;rw[hn];simp only[aI,U];by_cases hh:LU r.id (iq T.ae T.ae.length)=true∧n=r.bD
 ·obtain⟨hh1,rfl⟩:=hh;obtain⟨j,x,_,hx1,hx2⟩:=(C6 T.ae r.id _).1 hh1;have hj:j<T.ae.length:=(OF.1 hx1).1;have hl:=Bo hV hx1 (.int .i64 0) _ hj;rw[hx2,hn]at hl;have hrj:r.bD=(j:Int):=by simpa using hl
  have hxt:T.ae[r.bD.toNat]?=some x:=by simp_all
  have RW:dB (T.ae.map br.pv) r.bD=some x.pv:=aV br.pv (by omega) hxt;have e2:Ab.asInt .i64 (cell x.pv 2)=some x.wI:=rfl;have e4:ao 5 (cell x.pv 4)=some (x.calls.map aY.pv):=rfl;have hS:fQ T r=if yF T.dp T.jK x.wI r.day=true then(if EU T.bV r.bD=true then(if r.inst<0 then none else(instI T.bV r.bD)[r.inst.toNat]?)else if r.inst=0 then some (-1)else none)else none:=by simp_all[fQ,IS,IN]
  have hC:∀v,rZ T r v=if v≥0 then ve x.calls v else x.calls:=fun v=>by simp_all[rZ,IS]
  simp only[hh1,eq_self,ahX,asv,avv,cond_false,U,RW,e2,RX T.dp (by omega) T.jK (by omega),aB,RY T.bV (by omega),aau T.bV (by omega),aS,AI,e4];rw[hS];by_cases h5:yF T.dp T.jK x.wI r.day=true
  ·simp only[h5,ahX,cQ,IT,BY];by_cases h6:EU T.bV r.bD=true
   ·simp only[h6,ahX,cQ,IT,BY];by_cases h7:r.inst<0
    ·simp_all
    ·by_cases h8:r.inst≥((instI T.bV r.bD).length:Int)
     ·simp_all
     ·have hi:r.inst.toNat<(instI T.bV r.bD).length:=by omega
      have bB:(instI T.bV r.bD)[r.inst.toNat]∈instI T.bV (j:Int):=by simp_all
      have hrg:=instI_range _ _ _ bB;have oI:=UP hV hx1 bB;rw[IS (by simp[h7,h8]),IS h7,aV iv (by omega) (cN hi),cN hi];generalize (instI T.bV r.bD)[r.inst.toNat]=w at*;have e5:PV.agg [cell x.pv 0,cell x.pv 1,cell x.pv 2,cell x.pv 3,cell x.pv 4]=x.pv:=rfl;have e6:Ab.asInt .i64 (cell (iv w) 0)=some w:=rfl;have ajy:x.Ok:=sJ.ae.2 x (aqY hx1);have hfc:=aav x ajy w ((yH w).2 (by omega)) (hT.small x (aqY hx1));have t2:∀a b:PV,cn 2 (.aG [a,b])=some [a,b]:=fun a b=>rfl;simp only[U,e5,e6,hfc,t2,O6,T1,aS,aI,oI];refine⟨r.bD,w,_,rfl,fun v h=>?_⟩;cases h;refine⟨rfl,rfl,?_⟩;simp_all[IN,aS]
   ·simp only[h6,asw,BY,cQ,IT];by_cases h7:r.inst=0
    ·simp only[h7,asv,BY];refine⟨r.bD,-1,_,rfl,fun v h=>?_⟩;cases h;refine⟨rfl,rfl,?_⟩;simp_all[IS,aS]
    simp_all
  simp_all
 ·have hS:fQ T r=none:=by
   unfold fQ;rw[IS h1];split
   ·rfl
   ·rename_i h2;split
    ·rfl
    ·rename_i x hx;split
     ·grind [Bo,C6]
     rfl
  rw[hS];have hb:(!LU r.id (iq T.ae T.ae.length)|| !decide (n=r.bD))=true:=by grind
  rw[hb];simp_all
theorem Hf(p:Nat→Bool)(n:Nat)(fin:Option PV):bK ((List.range n).findSome? fun k=>if p k=true then some (some (PV.int .i64 (k:Int)))else none) fin=match(List.range n).find? p with|some k=>some (.int .i64 (k:Int))|none=>fin:=by
 have:∀l:List Nat,bK (l.findSome? fun k=>if p k=true then some (some (PV.int .i64 (k:Int)))else none) fin=match l.find? p with|some k=>some (.int .i64 (k:Int))|none=>fin:=by
  intro l;induction l with
  |nil=>rfl
  |cons a l ih=>
   rw[as3,auG];cases h:p a with
   |true=>rfl
   |false=>simp_all
 exact this _
theorem ahg(s a b c d:Bool):(s&&a&&b&&c&&d)=(a&&b&&c&&d&&s):=by grind
theorem FY(b:Bool)(x r:Option PV):(if b=true then x else r)=bK (if b=true then some x else none) r:=by cases b<;>rfl
def lkP(N:an)(a b:bx)(st:Bool)(k:Nat):Bool:=match N.aH[k]? with|some x=>lkB a b st x|none=>false
def lkI(N:an)(a b:bx)(st:Bool):Option Nat:=(List.range N.aH.length).find? (lkP N a b st)
def ptP(N:an)(q:iI)(x:bx)(k:Nat):Bool:=match N.paths[k]? with|some p=>wkB x p&&(p.free|| !q.free)|none=>false
def ptI(N:an)(q:iI)(x:bx):Option Nat:=(List.range N.paths.length).find? (ptP N q x)
variable{N:an}
theorem RZ{a b:bx}{st:Bool}(h:Fi N a b st=true):∃k,lkI N a b st=some k:=by
 unfold Fi at h;obtain⟨x,hx,hb⟩:=ati.1 h;obtain⟨k,hk⟩:=asy.1 hx;cases hf:lkI N a b st with
 |some k=>simp
 |none=>have hl:=(OF.1 hk).1;have:=aue.1 hf k (ath.2 hl);simp_all[lkP,absurd]
theorem PO{q:iI}{x:bx}:∀(l:List Path)(e:Int),wk q x l e=0→e=0∨∃p∈l,(wkB x p&&(p.free|| !q.free))=true
 |[],e,h=>.inl h
 |p::r,e,h=>by
  rw[PQ]at h;split at h
  ·rename_i h1;split at h
   ·simp_all
   ·rcases PO r 29 h with h3|⟨y,h3,h4⟩
    ·cases h3
    ·exact .inr ⟨y,atJ _ h3,h4⟩
  ·rcases PO r e h with h3|⟨y,h3,h4⟩
   ·exact .inl h3
   ·exact .inr ⟨y,atJ _ h3,h4⟩
variable{q:iI}
theorem R0{x:bx}(h:wk q x N.paths 18=0):∃k p,ptI N q x=some k∧N.paths[k]?=some p∧p.fq=IntKind.i64.wrap (x.arr-x.dep):=by
 rcases PO _ _ h with h|⟨p,hp,hb⟩
 ·omega
 ·obtain⟨k,hk⟩:=asy.1 hp;cases hf:ptI N q x with
  |none=>have hl:=(OF.1 hk).1;have:=aue.1 hf k (ath.2 hl);simp_all[ptP,absurd]
  |some j=>
   have:=List.find?_some hf;unfold ptP at this;split at this
   ·rename_i y hy;refine⟨j,y,rfl,hy,?_⟩;simp_all[wkB,amm,cT]
   ·cases this
def LW(T:ay)(N:an)(q:iI)(l:List bx)(o:List PV):PV:=.rp [.rs 4 (T.stops.map Stop.pv),.rs 3 (T.aj.map ax.pv),.rs 10 (T.dp.map mL.pv),.rs 3 (T.jK.map pF.pv),.rs 5 (T.ae.map br.pv),.rs 4 (T.bV.map bl.pv),.rs 2 (T.vf.map iJ.pv),.rs 3 (T.lO.map gD.pv),.rs 4 (T.paths.map Path.pv),.rs 6 (T.aK.map aM.pv),.int .i64 T.bp,.int .i64 T.within,.int .i64 T.cap,.rs 4 (N.stops.map Stop.pv),.rs 3 (N.aj.map ax.pv),.rs 8 (N.runs.map cy.pv),.rs 5 (N.aH.map bq.pv),.rs 4 (N.paths.map Path.pv),.rs 6 (N.aK.map aM.pv),.int .i64 N.bp,.int .i64 N.within,.int .i64 N.cap,.int .i64 q.src,.int .i64 q.dst,.int .i64 q.time,.bool q.back,.int .i64 q.b8,.int .i64 q.walk,.bool q.free,.bool q.rI,.int .i64 q.bQ,.bool q.HU,.rs 9 (l.map bx.pv),.rs 5 o]
theorem lk0(x:bq):Ab.asInt .i64 (cell x.pv 0)=some x.a:=rfl
theorem lk1(x:bq):Ab.asInt .i64 (cell x.pv 1)=some x.ac:=rfl
theorem lk2(x:bq):Ab.asInt .i64 (cell x.pv 2)=some x.b:=rfl
theorem lk3(x:bq):Ab.asInt .i64 (cell x.pv 3)=some x.bc:=rfl
theorem lk4(x:bq):Ab.asBool (cell x.pv 4)=some x.stay:=rfl
theorem pt0(x:Path):Ab.asInt .i64 (cell x.pv 0)=some x.a:=rfl
theorem pt1(x:Path):Ab.asInt .i64 (cell x.pv 1)=some x.b:=rfl
theorem pt2(x:Path):Ab.asInt .i64 (cell x.pv 2)=some x.fq:=rfl
theorem pt3(x:Path):Ab.asBool (cell x.pv 3)=some x.free:=rfl
theorem aaw{T:ay}{l:List bx}{o:List PV}(hN:N.aH.length≤maxLen)(a b:bx)(st:Bool):gN [LW T N q l o,a.pv,b.pv,.bool st]=match lkI N a b st with|some k=>some (.int .i64 (k:Int))|none=>some (.int .i64 0):=by
 have hm:=ai;have hr:=aw;have e:gN [LW T N q l o,a.pv,b.pv,.bool st]=bd.run gb (st,N.aH.map bq.pv,((N.aH.map bq.pv).length:Int),0,a.cu,a.run,a.ca,a.bC,a.src,a.dst,a.dep,a.arr,a.stay,b.cu,b.run,b.ca,b.bC,b.src,b.dst,b.dep,b.arr,b.stay,()):=rfl;rw[e];refine(aC (fun k=>(st,N.aH.map bq.pv,((N.aH.map bq.pv).length:Int),(k:Int),a.cu,a.run,a.ca,a.bC,a.src,a.dst,a.dep,a.arr,a.stay,b.cu,b.run,b.ca,b.bC,b.src,b.dst,b.dep,b.arr,b.stay,())) N.aH.length (fun k=>if lkP N a b st k=true then some (some (.int .i64 (k:Int)))else none) (fin:=some (.int .i64 0)) (fun k hk rec=>?_) (fun rec=>?_) (by omega) rfl).trans (Hf _ _ _)
 ·unfold gb;dsimp only;rw[IN (by simp;omega),bn bq.pv N.aH k hk];simp only[U,lk0,lk1,lk2,lk3,lk4,aJ,ab (show k<9223372036854775807 by omega)];unfold lkP lkB;rw[cN hk];simp only;generalize N.aH[k]=y;rw[ahg];exact FY _ _ _
 simp[gb,IS]
theorem link_ref(hN:N.aH.length≤maxLen)(a b:bx)(st:Bool):vg [N.pv,a.pv,b.pv,.bool st]=match lkI N a b st with|some k=>some (.int .i64 (k:Int))|none=>some (.int .i64 (-1)):=by
 have hm:=ai;have hr:=aw;have e:vg [N.pv,a.pv,b.pv,.bool st]=bd.run sL (st,0,N.stops.map Stop.pv,N.aj.map ax.pv,N.runs.map cy.pv,N.aH.map bq.pv,N.paths.map Path.pv,N.aK.map aM.pv,N.bp,N.within,N.cap,a.cu,a.run,a.ca,a.bC,a.src,a.dst,a.dep,a.arr,a.stay,b.cu,b.run,b.ca,b.bC,b.src,b.dst,b.dep,b.arr,b.stay,()):=rfl;rw[e];refine(aC (fun k=>(st,(k:Int),N.stops.map Stop.pv,N.aj.map ax.pv,N.runs.map cy.pv,N.aH.map bq.pv,N.paths.map Path.pv,N.aK.map aM.pv,N.bp,N.within,N.cap,a.cu,a.run,a.ca,a.bC,a.src,a.dst,a.dep,a.arr,a.stay,b.cu,b.run,b.ca,b.bC,b.src,b.dst,b.dep,b.arr,b.stay,())) N.aH.length (fun k=>if lkP N a b st k=true then some (some (.int .i64 (k:Int)))else none) (fin:=some (.int .i64 (-1))) (fun k hk rec=>?_) (fun rec=>?_) (by omega) rfl).trans (Hf _ _ _)
 ·unfold sL;dsimp only;rw[IN (by simp;omega),bn bq.pv N.aH k hk];simp only[U,lk0,lk1,lk2,lk3,lk4,aJ,ab (show k<9223372036854775807 by omega)];unfold lkP lkB;rw[cN hk];simp only;generalize N.aH[k]=y;exact FY _ _ _
 simp[sL,IS]
theorem ada{T:ay}{l:List bx}{o:List PV}(hN:N.paths.length≤maxLen)(x:bx):gO [LW T N q l o,x.pv]=match ptI N q x with|some k=>some (.int .i64 (k:Int))|none=>some (.int .i64 0):=by
 have hm:=ai;have hr:=aw;have hw:∃cs,LW T N q l o=.rp cs∧gO [.rp cs,x.pv]=bd.run gd (.agg cs,N.paths.map Path.pv,((N.paths.map Path.pv).length:Int),0,x.cu,x.run,x.ca,x.bC,x.src,x.dst,x.dep,x.arr,x.stay,())∧Ab.asBool (cell (.agg cs) 28)=some q.free∧PV.agg [cell (.agg cs) 0,cell (.agg cs) 1,cell (.agg cs) 2,cell (.agg cs) 3,cell (.agg cs) 4,cell (.agg cs) 5,cell (.agg cs) 6,cell (.agg cs) 7,cell (.agg cs) 8,cell (.agg cs) 9,cell (.agg cs) 10,cell (.agg cs) 11,cell (.agg cs) 12,cell (.agg cs) 13,cell (.agg cs) 14,cell (.agg cs) 15,cell (.agg cs) 16,cell (.agg cs) 17,cell (.agg cs) 18,cell (.agg cs) 19,cell (.agg cs) 20,cell (.agg cs) 21,cell (.agg cs) 22,cell (.agg cs) 23,cell (.agg cs) 24,cell (.agg cs) 25,cell (.agg cs) 26,cell (.agg cs) 27,cell (.agg cs) 28,cell (.agg cs) 29,cell (.agg cs) 30,cell (.agg cs) 31,cell (.agg cs) 32,cell (.agg cs) 33]=.agg cs:=⟨_,rfl,rfl,rfl,rfl⟩;obtain⟨cs,h1,h2,h3,h4⟩:=hw;rw[h1,h2];refine(aC (fun k=>(PV.agg cs,N.paths.map Path.pv,((N.paths.map Path.pv).length:Int),(k:Int),x.cu,x.run,x.ca,x.bC,x.src,x.dst,x.dep,x.arr,x.stay,())) N.paths.length (fun k=>if ptP N q x k=true then some (some (.int .i64 (k:Int)))else none) (fin:=some (.int .i64 0)) (fun k hk rec=>?_) (fun rec=>?_) (by omega) rfl).trans (Hf _ _ _)
 ·unfold gd;dsimp only;rw[IN (by simp;omega),bn Path.pv N.paths k hk];simp only[U,pt0,pt1,pt2,pt3,h3,h4,aJ,az,ab (show k<9223372036854775807 by omega),bT];unfold ptP wkB;rw[cN hk];simp only;generalize N.paths[k]=y;exact FY _ _ _
 simp[gd,IS]
theorem ahh(hN:N.paths.length≤maxLen)(x:bx):vh [N.pv,q.pv,x.pv]=match ptI N q x with|some k=>some (.int .i64 (k:Int))|none=>some (.int .i64 (-1)):=by
 have hm:=ai;have hr:=aw;have e:vh [N.pv,q.pv,x.pv]=bd.run sM (0,N.stops.map Stop.pv,N.aj.map ax.pv,N.runs.map cy.pv,N.aH.map bq.pv,N.paths.map Path.pv,N.aK.map aM.pv,N.bp,N.within,N.cap,q.src,q.dst,q.time,q.back,q.b8,q.walk,q.free,q.rI,q.bQ,q.HU,x.cu,x.run,x.ca,x.bC,x.src,x.dst,x.dep,x.arr,x.stay,()):=rfl;rw[e];refine(aC (fun k=>((k:Int),N.stops.map Stop.pv,N.aj.map ax.pv,N.runs.map cy.pv,N.aH.map bq.pv,N.paths.map Path.pv,N.aK.map aM.pv,N.bp,N.within,N.cap,q.src,q.dst,q.time,q.back,q.b8,q.walk,q.free,q.rI,q.bQ,q.HU,x.cu,x.run,x.ca,x.bC,x.src,x.dst,x.dep,x.arr,x.stay,())) N.paths.length (fun k=>if ptP N q x k=true then some (some (.int .i64 (k:Int)))else none) (fin:=some (.int .i64 (-1))) (fun k hk rec=>?_) (fun rec=>?_) (by omega) rfl).trans (Hf _ _ _)
 ·unfold sM;dsimp only;rw[IN (by simp;omega),bn Path.pv N.paths k hk];simp only[U,pt0,pt1,pt2,pt3,aJ,az,ab (show k<9223372036854775807 by omega),bT];unfold ptP wkB;rw[cN hk];simp only;generalize N.paths[k]=y;exact FY _ _ _
 simp[sM,IS]
def JE(L:List aY)(r:cy)(b:Int):Int:=match L[b.toNat]?,r.calls[b.toNat]? with
 |some k,some c=>if k.stop=c.stop then IntKind.i64.wrap (c.dep-IntKind.i64.wrap (IntKind.i64.wrap (r.day*86400)+k.dep))else 0
 |_,_=>0
theorem ane(x:cy):ao 5 (cell x.pv 7)=some (x.calls.map aY.pv):=rfl
theorem aiD(x:cy):Ab.asInt .i64 (cell x.pv 1)=some x.day:=rfl
variable{c:aY}
theorem PR(L:List aY)(r:cy){b:Int}(hb:0≤b)(hc:r.calls[b.toNat]?=some c):((bif decide (b≥((L.map aY.pv).length:Int))then some true else(dB (L.map aY.pv) b).bind fun p14=>(Ab.asInt .i64 (cell p14 0)).bind fun n15=>(dB (r.calls.map aY.pv) b).bind fun p16=>(Ab.asInt .i64 (cell p16 0)).bind fun n17=>some (n15 !=n17)).bind fun r18=>if r18=true then some (PV.int .i64 0)else(dB (r.calls.map aY.pv) b).bind fun p19=>(Ab.asInt .i64 (cell p19 2)).bind fun n20=>(dB (L.map aY.pv) b).bind fun p21=>(Ab.asInt .i64 (cell p21 2)).bind fun n22=>some (PV.int .i64 (IntKind.i64.wrap (n20-IntKind.i64.wrap (IntKind.i64.wrap (r.day*86400)+n22)))))=some (PV.int .i64 (JE L r b)):=by
 unfold JE;rw[hc,aV aY.pv hb hc,AI];by_cases h:b≥(L.length:Int)
 ·simp_all
 ·have hl:b.toNat<L.length:=by omega
  rw[aV aY.pv hb (cN hl),cN hl,att h];simp only[cond_false,U,LX,UQ];grind
theorem aax(a s:Int)(cs:PV)(L:List aY)(Ur:ao 5 cs=some (L.map aY.pv))(r:cy){b:Int}(hb:0≤b)(hc:r.calls[b.toNat]?=some c):gP [.agg [.int .i64 a,.int .i64 s,cs],r.pv,.int .i64 b]=some (.int .i64 (JE L r b)):=by have e1:Ab.asAgg 3 (.agg [.int .i64 a,.int .i64 s,cs])=some ():=rfl;have e2:cell (.agg [.int .i64 a,.int .i64 s,cs]) 0=.int .i64 a:=rfl;have e3:cell (.agg [.int .i64 a,.int .i64 s,cs]) 1=.int .i64 s:=rfl;have e4:cell (.agg [.int .i64 a,.int .i64 s,cs]) 2=cs:=rfl;simp only[gP,nF,e1,e2,e3,e4,Ur,ahe,pC,UI,UJ,UK,J4,UL,UM,C4,aS,aI,aB,ahd,U];exact PR L r hb hc
theorem adb(T:ay)(sJ:T.Ok)(hT:FX T)(r:cy){v:Int}(hv:fQ T r=some v){b:Int}(hb:0≤b)(hc:r.calls[b.toNat]?=some c):vi [T.pv,r.pv,.int .i64 b]=some (.int .i64 (JE (rZ T r v) r b)):=by
 obtain⟨s,hs,hsv⟩:=It T sJ hT r;have hs':=hsv v hv;subst hs';rw[hv]at hs;have t2:∀a b:PV,cn 2 (.aG [a,b])=some [a,b]:=fun a b=>rfl;simp only[vi,FZ,ttA,tt0,tt1,tt2,tt3,tt4,tt5,tt6,tt7,tt8,tt9,Iu,Iv,Iw,ahe,pC,UI,UJ,UK,J4,UL,UM,C4,aS,aI,aB,ahd,U,ttE];rw[show PV.agg [.int .i64 r.bD,.int .i64 r.day,.int .i64 r.inst,.str r.id,.int .i64 r.dG,.bool r.free,.bool r.aay,.rs 5 (r.calls.map aY.pv)]=r.pv from rfl,hs];simp only[U,t2,O6,T1,aI,aB,auc,ahX,cond_false,cT];by_cases h1:r.bD<0
 ·rw[IN h1];unfold rZ;rw[IN h1];rfl
 ·rw[IS h1];unfold fQ at hv;rw[IS (by omega),IS h1]at hv;split at hv
  ·cases hv
  ·rename_i x hx;have RW:dB (T.ae.map br.pv) r.bD=some x.pv:=aV br.pv (by omega) hx;have e4:ao 5 (cell x.pv 4)=some (x.calls.map aY.pv):=rfl;have e5:PV.agg [cell x.pv 0,cell x.pv 1,cell x.pv 2,cell x.pv 3,cell x.pv 4]=x.pv:=rfl;have ajy:x.Ok:=sJ.ae.2 x (aqY hx);have hsm:x.calls.length≤40:=hT.small x (aqY hx);have hC:rZ T r s=if s≥0 then ve x.calls s else x.calls:=by unfold rZ;rw[IS h1,hx]
   rw[RW,hC];simp only[U,e4,e5];by_cases h2:s≥0
   ·have hrg:0≤s∧s≤172800:=by grind [instI_range,List.mem_of_getElem?]
    rw[IN h2,IN h2,aaz x ajy s hrg hsm];simp only[U,t2,O6,T1,aS,aI];exact PR _ r hb hc
   ·rw[IS h2,IS h2];exact PR _ r hb hc
def nxS(l:List bx)(i:Nat):Bool:=match l[i+1]? with|some y=>y.stay|none=>false
def J5(l:List bx)(i:Nat)(x:bx):List Fact:=if nxS l i=true then[]else[⟨4,i,x.dst,x.bC,0⟩]
def boF(i:Nat)(x:bx):List Fact:=if x.stay=true then[]else[⟨3,i,x.src,x.ca,0⟩]
def ahi(o:Option Nat):Int:=match o with|some k=>k|none=>0
def joF(N:an)(l:List bx)(x:bx):Nat→List Fact
 |0=>[]
 |j+1=>match l[j]? with
  |none=>[]
  |some a=>if a.cu=true then(if x.stay=true then[⟨6,((j+1:Nat):Int),ahi (lkI N a x true),1,IntKind.i64.wrap (x.dep-a.arr)⟩]else if IntKind.i64.wrap (x.dep-a.arr)≥Hg N x.src then[⟨5,((j+1:Nat):Int),x.src,IntKind.i64.wrap (x.dep-a.arr),Hg N x.src⟩]else[⟨6,((j+1:Nat):Int),ahi (lkI N a x false),0,IntKind.i64.wrap (x.dep-a.arr)⟩])else[]
def PS(T:ay)(r:cy):Int:=if r.bD≥0 then(match T.ae[r.bD.toNat]? with|some x=>Bp T.dp T.jK x.wI r.day|none=>0)else 0
def LY(T:ay)(N:an)(l:List bx)(i:Nat)(x:bx)(r:cy)(s:Int):List Fact:=[⟨1,i,PS T r,s,r.bD⟩,⟨2,i,x.dep,x.arr,JE (rZ T r s) r x.ca⟩]++(joF N l x i++(boF i x++J5 l i x))
def LZ(N:an)(q:iI)(i:Nat)(x:bx):List Fact:=match ptI N q x with
 |some k=>(match N.paths[k]? with|some p=>[⟨7,i,k,p.fq,if p.free=true then 1 else 0⟩]|none=>[])
 |none=>[]
def gV(T:ay)(N:an)(x:bx):Bool:=x.cu&&(match ub N x with|some r=>(fQ T r).isNone|none=>true)
def Ix(T:ay)(N:an)(q:iI)(l:List bx)(i:Nat)(x:bx):List Fact:=if x.cu=true then(match ub N x with|some r=>(match fQ T r with|some s=>LY T N l i x r s|none=>[])|none=>[])else LZ N q i x
def lgF(T:ay)(N:an)(q:iI)(l:List bx)(i:Nat):List Fact:=match l[i]? with|none=>[]|some x=>Ix T N q l i x
theorem WR(N:an)(l:List bx)(x:bx):∀i,(joF N l x i).length≤1
 |0=>by simp[joF]
 |j+1=>by grind [joF]
theorem ade(l:List bx)(i:Nat)(x:bx):(J5 l i x).length≤1:=by unfold J5;grind
theorem ahj(i:Nat)(x:bx):(boF i x).length≤1:=by unfold boF;grind
theorem WS(T:ay)(N:an)(q:iI)(l:List bx)(i:Nat):(lgF T N q l i).length≤5:=by
 unfold lgF;split
 ·simp
 ·rename_i x hx;unfold Ix;split
  ·split
   ·split
    ·rename_i r s _ _;have h1:=WR N l x i;grind [ade,ahj,LY,List.length_append,List.length_cons,List.length_nil]
    simp
   simp
  grind [LZ]
structure QK(N:an)(q:iI)(l:List bx):Prop where
 val:vS N
 Hh:AJ N l
 place:∀k,k<l.length→eU N q l k=0
 few:l.length≤12
section
variable {T:ay} {N:an} {q:iI} {l:List bx}
variable{k:Nat}
theorem QK.split(h:QK N q l)(hk:k<l.length):oM N q l[k]=0∧(if k=0 then Bq N q l l[k]else match l[k-1]? with|some a=>if wL N a l[k]=0 then vj N a l[k]else wL N a l[k]|none=>0)=0:=by have hp:=h.place k hk;unfold eU at hp;grind
theorem QK.walk(h:QK N q l)(hk:k<l.length)(hr:l[k].cu=false):wk q l[k] N.paths 18=0:=by have hl:=(h.split hk).1;unfold oM at hl;grind
theorem QK.join(h:QK N q l)(hk:k+1<l.length):wL N l[k] l[k+1]=0∧vj N l[k] l[k+1]=0:=by have:=(h.split hk).2;grind
theorem WT{x:bx}(h:Nv x=false):0≤x.dep∧x.dep≤3155932800∧0≤x.arr∧x.arr≤3155932800:=by simp_all[Nv,F0,asK,as6,amm,cT]
theorem QK.aH(h:QK N q l)(hk:k+1<l.length)(ha:l[k].cu=true)(hb:l[k+1].cu=true):(l[k+1].stay=true→Fi N l[k] l[k+1] true=true)∧(l[k+1].stay=false→¬IntKind.i64.wrap (l[k+1].dep-l[k].arr)≥Hg N l[k+1].src→Fi N l[k] l[k+1] false=true):=by
 obtain⟨h1,h2⟩:=h.join hk;refine⟨fun hs=>?_,fun hs hc=>?_⟩
 ·unfold wL at h1;grind
 ·obtain⟨⟨s,ZW,JF,hsm⟩,_⟩:=lB (h.Hh.WU (k+1) hk);have uQ:=h.val.stop s hsm;have hch:=F1 ZW;have m1:=WT (h.Hh.mom (k+1) hk);have m2:=WT (h.Hh.mom k (by omega));unfold vj at h2;rw[hb,hs,ha]at h2;rw[IS (by simp),IS (by simp)]at h2;split at h2
  ·rename_i hh;simp only[asz,amm,cT]at hh;grind [aZ]
  omega
theorem vk{o:List PV}(h:o.length≤100000)(f:PV)(k:List PV→Option PV):J6 o f k=k (o++[f]):=by unfold J6;rw[IN (by grind [List.length_append,List.length_singleton,ah])]
theorem WV(l:List bx)(i:Nat)(hi:i<l.length)(hl:l.length≤12)(f:Bool→Option PV):((bif IntKind.i64.wrap ((i:Int)+1)==((l.map bx.pv).length:Int)then some true else(dB (l.map bx.pv) (IntKind.i64.wrap ((i:Int)+1))).bind fun q=>(Ab.asBool (cell q 8)).bind fun b=>some !b).bind f)=f (!nxS l i):=by
 unfold nxS;rw[ab (by omega),AI];by_cases e:i+1=l.length
 ·simp_all
 ·rw[show(((i+1:Nat):Int)==(l.length:Int))=false by grind,bn bx.pv l (i+1) (by omega),cN (show i+1<l.length by omega)];rfl
theorem adf(i:Nat)(hi:i<l.length)(hl:l.length≤12)(x:bx)(k:List PV→Option PV)(o:List PV)(ho:o.length≤10000):Kp (l.map bx.pv) (i:Int) x.pv k o=k (o++(J5 l i x).map Fact.pv):=by
 unfold Kp;rw[WV l i hi hl];unfold J5;cases nxS l i with
 |true=>simp
 |false=>rw[IN (by rfl),IS (by simp)];simp only[mj,ml,U,vk (show o.length≤100000 by omega)];rfl
theorem ajz(i:Nat)(hi:i<l.length)(hl:l.length≤12)(x:bx)(k:List PV→Option PV)(o:List PV)(ho:o.length≤1000):UR (l.map bx.pv) (i:Int) x.pv k o=k (o++(boF i x++J5 l i x).map Fact.pv):=by
 unfold UR boF;simp only[iX,U];cases x.stay with
 |true=>rw[IS (by simp),IN rfl,adf i hi hl x k o (by omega)];rfl
 |false=>rw[IN (by rfl),IS (by simp)];simp only[lf,lh,U,vk (show o.length≤100000 by omega)];rw[adf i hi hl x k _ (by simp;omega),asT,←asD];rfl
theorem adg{a b:bx}{st:Bool}{o:List PV}(hN:N.aH.length≤maxLen)(h:Fi N a b st=true)(k:Int→Option PV):WW (LW T N q l o) a.pv b.pv st k=k (ahi (lkI N a b st)):=by obtain⟨j,hj⟩:=RZ h;have:=aaw (T:=T) (N:=N) (q:=q) (l:=l) (o:=o) hN a b st;unfold WW;rw[show fA9 a.pv=a.pv from rfl,show fA9 b.pv=b.pv from rfl,this,hj];rfl
theorem ajA(h:QK N q l)(i:Nat)(hi:i<l.length)(hr:l[i].cu=true)(k:List PV→Option PV)(o:List PV)(ho:o.length≤1000):WX (N.stops.map Stop.pv) (l.map bx.pv) (i:Int) (LW T N q l) k o=k (o++(joF N l l[i] i).map Fact.pv):=by
 have hf:=h.few;have hl:=h.val.ok.aH.1;cases i with
 |zero=>unfold WX joF;simp
 |succ j=>
  obtain⟨⟨s,ZW,JF,hsm⟩,_⟩:=lB (h.Hh.WU (j+1) hi);have hch:=F1 ZW;unfold WX;rw[joF,show(((j+1:Nat):Int)==0)=false by rfl,ic j (by omega),bn bx.pv l j (by omega),bn bx.pv l (j+1) hi,cN (show j<l.length by omega)];simp only[cond_false,U,jL];by_cases ha:l[j].cu=true
  ·obtain⟨l1,l2⟩:=h.aH hi ha hr;rw[IS (by simp[ha]),IN ha];simp only[ko,kq,lf,iX,U,aV Stop.pv JF ZW,Iy,←hch];by_cases hs:l[j+1].stay=true
   ·rw[IN hs,IN hs,adg hl (l1 hs),vk (by omega)];rfl
   ·rw[IS hs,IS hs];by_cases hc:IntKind.i64.wrap (l[j+1].dep-l[j].arr)≥Hg N l[j+1].src
    ·rw[IN (by simpa using hc),IN hc,vk (by omega)];rfl
    ·rw[IS (by simpa using hc),IS hc,adg hl (l2 (by simpa using hs) hc),vk (by omega)];rfl
  simp_all
theorem adh(sJ:T.Ok)(hT:FX T)(h:QK N q l)(i:Nat)(hi:i<l.length)(hr:l[i].cu=true){r:cy}(hrn:ub N l[i]=some r){s:Int}(hs:fQ T r=some s)(cs:PV)(Ur:ao 5 cs=some ((rZ T r s).map aY.pv))(k:List PV→Option PV)(o:List PV)(ho:o.length≤500):WY (T.dp.map mL.pv) (T.jK.map pF.pv) (T.ae.map br.pv) (N.stops.map Stop.pv) (N.runs.map cy.pv) (l.map bx.pv) (i:Int) (LW T N q l) (.agg [.int .i64 r.bD,.int .i64 s,cs]) k o=k (o++(LY T N l i l[i] r s).map Fact.pv):=by
 have hf:=h.few;have hmx:maxLen=9223372036854775807:=rfl;have hc:=hT.dp;have hx:=hT.jK;obtain⟨r',t,a,b,hR⟩:=wM h.val ((lB (h.Hh.WU i hi)).2.2.1 hr);have QF:r'=r:=by have:=hR.run;unfold ub at hrn;simp_all
 subst QF;have e0:Ab.asInt .i64 (cell (PV.agg [.int .i64 r'.bD,.int .i64 s,cs]) 0)=some r'.bD:=rfl;have e1:Ab.asInt .i64 (cell (PV.agg [.int .i64 r'.bD,.int .i64 s,cs]) 1)=some s:=rfl;have serve:∀c,PT (N.stops.map Stop.pv) (l.map bx.pv) (i:Int) (LW T N q l) l[i].pv r'.pv (.agg [.int .i64 r'.bD,.int .i64 s,cs]) k o c=k (o++([(⟨1,i,c,s,r'.bD⟩:Fact),⟨2,i,l[i].dep,l[i].arr,JE (rZ T r' s) r' l[i].ca⟩]++(joF N l l[i] i++(boF i l[i]++J5 l i l[i]))).map Fact.pv):=by intro c;unfold PT;rw[show PV.agg [cell (PV.agg [.int .i64 r'.bD,.int .i64 s,cs]) 0,cell (PV.agg [.int .i64 r'.bD,.int .i64 s,cs]) 1,cell (PV.agg [.int .i64 r'.bD,.int .i64 s,cs]) 2]=.agg [.int .i64 r'.bD,.int .i64 s,cs]from rfl,show fA8 r'.pv=r'.pv from rfl];simp only[e0,e1,U,vk (show o.length≤100000 by omega),ko,kq,lh,aax r'.bD s cs _ Ur r' hR.Iz hR.ca,aI];rw[vk (by simp;omega),ajA h i hi hr _ _ (by simp;omega),ajz i hi hf _ _ _ (by grind [WR])];congr 1;simp only[asT,asD];rfl
 unfold WY;rw[bn bx.pv l i hi];simp only[U,lj,aV cy.pv hR.pC hR.run,e0];unfold LY PS;by_cases h0:r'.bD≥0
 ·rw[IN (by simpa using h0),IN h0];have hx:∃x,T.ae[r'.bD.toNat]?=some x:=by
   cases hh:T.ae[r'.bD.toNat]? with
   |some x=>simp
   |none=>unfold fQ at hs;grind
  obtain⟨x,hx⟩:=hx;have e2:Ab.asInt .i64 (cell x.pv 2)=some x.wI:=rfl;rw[hx,aV br.pv h0 hx];grind [U,aiD,JG,aI,serve]
 grind
theorem adi(h:QK N q l)(i:Nat)(hi:i<l.length)(hr:l[i].cu=false)(o':List PV)(k:List PV→Option PV)(o:List PV)(ho:o.length≤500):adj (l.map bx.pv) (N.paths.map Path.pv) (i:Int) (LW T N q l o') k o=k (o++(LZ N q i l[i]).map Fact.pv):=by
 have hN:N.paths.length≤maxLen:=by have:=h.val.ok.paths.1;omega
 obtain⟨j,p,h1,h2,h3⟩:=R0 (h.walk hi hr);have hp:=ada (T:=T) (q:=q) (l:=l) (o:=o') hN l[i];rw[h1]at hp;unfold adj;rw[bn bx.pv l i hi];have RW:dB (N.paths.map Path.pv) (j:Int)=some p.pv:=aV Path.pv (by omega) (by simp_all);simp only[U,show fA9 l[i].pv=l[i].pv from rfl,hp,aI,RW,pt2,pt3];unfold LZ;simp only[h1,h2];cases p.free<;>(simp only[cQ,BY,IT];rw[vk (by omega)];rfl)
end
set_option maxHeartbeats 4000000
def fSt(T:ay)(N:an)(q:iI)(l:List bx)(jb:List PV)(k:Nat)(b o:List PV):ajB:=(jb,l.map bx.pv,((l.map bx.pv).length:Int),(k:Int),T.stops.map Stop.pv,T.aj.map ax.pv,T.dp.map mL.pv,T.jK.map pF.pv,T.ae.map br.pv,T.bV.map bl.pv,T.vf.map iJ.pv,T.lO.map gD.pv,T.paths.map Path.pv,T.aK.map aM.pv,T.bp,T.within,T.cap,.rm 9 (wJ T) (wK T),N.stops.map Stop.pv,N.aj.map ax.pv,N.runs.map cy.pv,N.aH.map bq.pv,N.paths.map Path.pv,N.aK.map aM.pv,N.bp,N.within,N.cap,T.stops.map Stop.pv,T.aj.map ax.pv,T.dp.map mL.pv,T.jK.map pF.pv,T.ae.map br.pv,T.bV.map bl.pv,T.vf.map iJ.pv,T.lO.map gD.pv,T.paths.map Path.pv,T.aK.map aM.pv,T.bp,T.within,T.cap,N.stops.map Stop.pv,N.aj.map ax.pv,N.runs.map cy.pv,N.aH.map bq.pv,N.paths.map Path.pv,N.aK.map aM.pv,N.bp,N.within,N.cap,q.src,q.dst,q.time,q.back,q.b8,q.walk,q.free,q.rI,q.bQ,q.HU,l.map bx.pv,b,o,())
def tSt(T:ay)(N:an)(q:iI)(l:List bx)(jb:List PV)(k:Nat)(b o:List PV):anf:=(jb,(jb.length:Int),(k:Int),T.stops.map Stop.pv,T.aj.map ax.pv,T.dp.map mL.pv,T.jK.map pF.pv,T.ae.map br.pv,T.bV.map bl.pv,T.vf.map iJ.pv,T.lO.map gD.pv,T.paths.map Path.pv,T.aK.map aM.pv,T.bp,T.within,T.cap,N.stops.map Stop.pv,N.aj.map ax.pv,N.runs.map cy.pv,N.aH.map bq.pv,N.paths.map Path.pv,N.aK.map aM.pv,N.bp,N.within,N.cap,q.src,q.dst,q.time,q.back,q.b8,q.walk,q.free,q.rI,q.bQ,q.HU,l.map bx.pv,b,o,())
def B6:PV:=.aG [.rs 5 [],.int .i64 16]
def EV(l:List bx)(k:Nat):List Nat:=(List.range k).filter fun i=>match l[i]? with|some x=>gW x|none=>false
theorem AK(l:List bx){k:Nat}(hk:k<l.length):EV l (k+1)=EV l k++if gW l[k]=true then[k]else[]:=by unfold EV;rw[atB,List.filter_append];grind
theorem WZ(l:List bx)(k:Nat):(EV l k).length≤k:=by have:=atX (fun i=>match l[i]? with|some x=>gW x|none=>false) (List.range k);rw[auX]at this;exact this
def zr(l:List bx)(k:Nat):List PV:=(EV l k).map fun(i:Nat)=> .int .i64 (i:Int)
section
variable {T:ay} {N:an} {q:iI} {l:List bx}
def C7(T:ay)(N:an)(q:iI)(l:List bx)(k:Nat):List Fact:=(List.range k).flatMap (lgF T N q l)
theorem IA(k:Nat):C7 T N q l (k+1)=C7 T N q l k++lgF T N q l k:=by simp[C7,atB,auC]
theorem AL:∀k,(C7 T N q l k).length≤5*k
 |0=>by simp[C7]
 |k+1=>by rw[IA,asn];have h1:=AL k;have h2:=WS T N q l k;omega
theorem adk(sJ:T.Ok)(hT:FX T)(hV:zp T)(h:QK N q l)(jb:List PV)(k:Nat)(hk:k<l.length)(rec:ajB→Option PV):gr bd (fSt T N q l jb k (zr l k) ((C7 T N q l k).map Fact.pv)) rec=if gV T N l[k]=true then some B6 else rec (fSt T N q l jb (k+1) (zr l (k+1)) ((C7 T N q l (k+1)).map Fact.pv)):=by
 have hf:=h.few;have ho:=AL (T:=T) (N:=N) (q:=q) (l:=l) k;have hb:=WZ l k;have Us:(zr l k).length≤k:=by simp_all[zr,AI]
 have TP:lgF T N q l k=Ix T N q l k l[k]:=by grind [lgF,List.getElem?_eq_getElem]
 rw[IA,asT,TP];generalize hob:(C7 T N q l k).map Fact.pv=o;have hol:o.length≤60:=by grind
 unfold gr fSt;dsimp only;have hw:∀o,PV.rp [.rs 4 (T.stops.map Stop.pv),.rs 3 (T.aj.map ax.pv),.rs 10 (T.dp.map mL.pv),.rs 3 (T.jK.map pF.pv),.rs 5 (T.ae.map br.pv),.rs 4 (T.bV.map bl.pv),.rs 2 (T.vf.map iJ.pv),.rs 3 (T.lO.map gD.pv),.rs 4 (T.paths.map Path.pv),.rs 6 (T.aK.map aM.pv),.int .i64 T.bp,.int .i64 T.within,.int .i64 T.cap,.rs 4 (N.stops.map Stop.pv),.rs 3 (N.aj.map ax.pv),.rs 8 (N.runs.map cy.pv),.rs 5 (N.aH.map bq.pv),.rs 4 (N.paths.map Path.pv),.rs 6 (N.aK.map aM.pv),.int .i64 N.bp,.int .i64 N.within,.int .i64 N.cap,.int .i64 q.src,.int .i64 q.dst,.int .i64 q.time,.bool q.back,.int .i64 q.b8,.int .i64 q.walk,.bool q.free,.bool q.rI,.int .i64 q.bQ,.bool q.HU,.rs 9 (l.map bx.pv),.rs 5 o]=LW T N q l o:=fun o=>rfl;simp only[hw,ttE];rw[IN (by simp;omega),bn bx.pv l k hk];simp only[U,jL,iX,da,BY];by_cases hr:l[k].cu=true
 ·have hex:=(lB (h.Hh.WU k hk)).2.2.1 hr;obtain⟨r,t,a,c,hR⟩:=wM h.val hex;have hrn:ub N l[k]=some r:=by unfold ub;rw[IN hR.pC];exact hR.run
  obtain⟨ja,js,cs,hj,hjv⟩:=UO T sJ hT hV r;rw[IS (by simp[hr])];have key:∀b,ajC (N.runs.map cy.pv) T.pv (.rm 9 (wJ T) (wK T)) l[k].pv (WY (T.dp.map mL.pv) (T.jK.map pF.pv) (T.ae.map br.pv) (N.stops.map Stop.pv) (N.runs.map cy.pv) (l.map bx.pv) (k:Int) fun o=>LW T N q l o) (fun o=>rec (jb,l.map bx.pv,((l.map bx.pv).length:Int),IntKind.i64.wrap ((k:Int)+1),T.stops.map Stop.pv,T.aj.map ax.pv,T.dp.map mL.pv,T.jK.map pF.pv,T.ae.map br.pv,T.bV.map bl.pv,T.vf.map iJ.pv,T.lO.map gD.pv,T.paths.map Path.pv,T.aK.map aM.pv,T.bp,T.within,T.cap,.rm 9 (wJ T) (wK T),N.stops.map Stop.pv,N.aj.map ax.pv,N.runs.map cy.pv,N.aH.map bq.pv,N.paths.map Path.pv,N.aK.map aM.pv,N.bp,N.within,N.cap,T.stops.map Stop.pv,T.aj.map ax.pv,T.dp.map mL.pv,T.jK.map pF.pv,T.ae.map br.pv,T.bV.map bl.pv,T.vf.map iJ.pv,T.lO.map gD.pv,T.paths.map Path.pv,T.aK.map aM.pv,T.bp,T.within,T.cap,N.stops.map Stop.pv,N.aj.map ax.pv,N.runs.map cy.pv,N.aH.map bq.pv,N.paths.map Path.pv,N.aK.map aM.pv,N.bp,N.within,N.cap,q.src,q.dst,q.time,q.back,q.b8,q.walk,q.free,q.rI,q.bQ,q.HU,l.map bx.pv,b,o,())) o=if gV T N l[k]=true then some B6 else rec (fSt T N q l jb (k+1) b (o++(Ix T N q l k l[k]).map Fact.pv)):=by
   intro b;have t2:∀a b:PV,cn 2 (.aG [a,b])=some [a,b]:=fun a b=>rfl;have a3:Ab.asAgg 3 (.agg [.int .i64 ja,.int .i64 js,cs])=some ():=rfl;unfold ajC;simp only[lj,U,aV cy.pv hR.pC hR.run,show fA8 r.pv=r.pv from rfl,hj,t2,O6,T1,a3,aB];have Wr:gV T N l[k]=(fQ T r).isNone:=by unfold gV;rw[hr,hrn];rfl
   have hfc:∀v,fQ T r=some v→Ix T N q l k l[k]=LY T N l k l[k] r v:=fun v hv=>by simp_all[Ix,IN]
   rw[Wr];cases hS:fQ T r with
   |none=>rfl
   |some v=>obtain⟨e1,e2,e3⟩:=hjv v hS;rw[hfc v hS,e1,e2];simp only[auc,Option.isNone_some,ahX,cQ,BY,IT];have:=adh (T:=T) sJ hT h k hk hr hrn hS cs e3 (fun o=>rec (jb,l.map bx.pv,((l.map bx.pv).length:Int),IntKind.i64.wrap ((k:Int)+1),T.stops.map Stop.pv,T.aj.map ax.pv,T.dp.map mL.pv,T.jK.map pF.pv,T.ae.map br.pv,T.bV.map bl.pv,T.vf.map iJ.pv,T.lO.map gD.pv,T.paths.map Path.pv,T.aK.map aM.pv,T.bp,T.within,T.cap,.rm 9 (wJ T) (wK T),N.stops.map Stop.pv,N.aj.map ax.pv,N.runs.map cy.pv,N.aH.map bq.pv,N.paths.map Path.pv,N.aK.map aM.pv,N.bp,N.within,N.cap,T.stops.map Stop.pv,T.aj.map ax.pv,T.dp.map mL.pv,T.jK.map pF.pv,T.ae.map br.pv,T.bV.map bl.pv,T.vf.map iJ.pv,T.lO.map gD.pv,T.paths.map Path.pv,T.aK.map aM.pv,T.bp,T.within,T.cap,N.stops.map Stop.pv,N.aj.map ax.pv,N.runs.map cy.pv,N.aH.map bq.pv,N.paths.map Path.pv,N.aK.map aM.pv,N.bp,N.within,N.cap,q.src,q.dst,q.time,q.back,q.b8,q.walk,q.free,q.rI,q.bQ,q.HU,l.map bx.pv,b,o,())) o (by omega);refine this.trans ?_;rw[ab (by omega)];rfl
  by_cases hs:l[k].stay=true
  ·have hbk:zr l (k+1)=zr l k:=by simp_all[zr,AK,IS,gW]
   rw[IS (by simp[hs]),hbk];exact key _
  ·have hbk:zr l (k+1)=zr l k++[.int .i64 (k:Int)]:=by simp_all[zr,AK,IN,gW]
   rw[IN (by simpa using hs),hbk,IN (by grind [List.length_append,List.length_singleton,ah])];exact key _
 ·have Cz:l[k].cu=false:=by simpa using hr
  have Wr:gV T N l[k]=false:=by unfold gV;rw[Cz];rfl
  have hfc:Ix T N q l k l[k]=LZ N q k l[k]:=by unfold Ix;rw[IS hr]
  have hbk:zr l (k+1)=zr l k:=by simp_all[zr,AK,IS,gW]
  rw[IN (by simp[Cz]),Wr,IS (by simp),hfc,hbk];have:=adi (T:=T) h k hk Cz o (fun o=>rec (jb,l.map bx.pv,((l.map bx.pv).length:Int),IntKind.i64.wrap ((k:Int)+1),T.stops.map Stop.pv,T.aj.map ax.pv,T.dp.map mL.pv,T.jK.map pF.pv,T.ae.map br.pv,T.bV.map bl.pv,T.vf.map iJ.pv,T.lO.map gD.pv,T.paths.map Path.pv,T.aK.map aM.pv,T.bp,T.within,T.cap,.rm 9 (wJ T) (wK T),N.stops.map Stop.pv,N.aj.map ax.pv,N.runs.map cy.pv,N.aH.map bq.pv,N.paths.map Path.pv,N.aK.map aM.pv,N.bp,N.within,N.cap,T.stops.map Stop.pv,T.aj.map ax.pv,T.dp.map mL.pv,T.jK.map pF.pv,T.ae.map br.pv,T.bV.map bl.pv,T.vf.map iJ.pv,T.lO.map gD.pv,T.paths.map Path.pv,T.aK.map aM.pv,T.bp,T.within,T.cap,N.stops.map Stop.pv,N.aj.map ax.pv,N.runs.map cy.pv,N.aH.map bq.pv,N.paths.map Path.pv,N.aK.map aM.pv,N.bp,N.within,N.cap,q.src,q.dst,q.time,q.back,q.b8,q.walk,q.free,q.rI,q.bQ,q.HU,l.map bx.pv,zr l k,o,())) o (by omega);grind [ab]
def aaA(l:List bx)(i:Int):Int:=match(EV l l.length)[i.toNat]? with|some k=>k|none=>0
def pV(l:List bx)(t:iY):Fact:=⟨8,aaA l t.fst,t.prod,t.jM,t.lst⟩
theorem aaB(jb:List iY)(ht:jb.length≤1000)(kY:∀t∈jb,0≤t.fst∧t.fst<((EV l l.length).length:Int))(o:List Fact)(ho:o.length≤1000):bd.run (mV bd) (tSt T N q l (jb.map iY.pv) 0 (zr l l.length) (o.map Fact.pv))=some (.aG [.rs 5 ((o++jb.map (pV l)).map Fact.pv),.int .i64 0]):=by
 refine bg (fun k=>tSt T N q l (jb.map iY.pv) k (zr l l.length) ((o++(jb.take k).map (pV l)).map Fact.pv)) jb.length (fun k hk rec=>?_) (fun rec=>?_) (by unfold rounds;omega) (by simp)
 ·have hm:=kY _ (aqW hk);have cd:jb[k].fst.toNat<(EV l l.length).length:=by omega
  have RW:(zr l l.length)[jb[k].fst.toNat]?=some (.int .i64 (aaA l jb[k].fst)):=by unfold zr aaA;grind
  have hra:al jb[k].fst (zr l l.length).length:=by unfold zr;rw[AI];exact⟨hm.1,hm.2⟩
  have t0:∀t:iY,Ab.asInt .i64 (cell t.pv 0)=some t.prod:=fun t=>rfl;have t1:∀t:iY,Ab.asInt .i64 (cell t.pv 1)=some t.fst:=fun t=>rfl;have t2:∀t:iY,Ab.asInt .i64 (cell t.pv 2)=some t.lst:=fun t=>rfl;have t3:∀t:iY,Ab.asInt .i64 (cell t.pv 3)=some t.jM:=fun t=>rfl;have hl2:((o++(jb.take k).map (pV l)).map Fact.pv).length≤100000:=by simp;omega
  rw[show(o++(jb.take (k+1)).map (pV l)).map Fact.pv=(o++(jb.take k).map (pV l)).map Fact.pv++[(pV l jb[k]).pv] by rw[asr hk];grind];generalize (o++(jb.take k).map (pV l)).map Fact.pv=oo at*;unfold mV tSt;dsimp only;rw[IN (by simp;omega),bn iY.pv jb k hk];simp only[U,t0,t1,t2,t3,IN hra,RW,R1,aI,vk hl2,ab (show k<9223372036854775807 by omega)];rfl
 simp[mV,tSt,IS,asP]
theorem aaC(sJ:T.Ok)(hT:FX T)(hV:zp T)(h:QK N q l)(jb:List iY)(ht:jb.length≤1000)(kY:∀t∈jb,0≤t.fst∧t.fst<((EV l l.length).length:Int)):bd.run (gr bd) (fSt T N q l (jb.map iY.pv) 0 [] [])=if l.any (gV T N)=true then some B6 else some (.aG [.rs 5 ((C7 T N q l l.length++jb.map (pV l)).map Fact.pv),.int .i64 0]):=by
 have hf:=h.few;have hlen:=AL (T:=T) (N:=N) (q:=q) (l:=l) l.length;refine(aC (fun k=>fSt T N q l (jb.map iY.pv) k (zr l k) ((C7 T N q l k).map Fact.pv)) l.length (fun k=>(l[k]?).bind fun x=>if gV T N x=true then some (some B6)else none) (fin:=some (.aG [.rs 5 ((C7 T N q l l.length++jb.map (pV l)).map Fact.pv),.int .i64 0])) (fun k hk rec=>?_) (fun rec=>?_) (by unfold rounds;omega) rfl).trans ?_
 ·simp_all[adk,cN,U,FY]
 ·rw[←aaB (T:=T) (N:=N) (q:=q) jb ht kY _ (show(C7 T N q l l.length).length≤1000 by omega)];unfold gr fSt;dsimp only;rw[IS (by simp)];rfl
 ·have e:((List.range l.length).findSome? fun k=>(l[k]?).bind fun x=>if gV T N x=true then some (some B6)else none)=if l.any (gV T N)=true then some (some B6)else none:=by
   have:=AM (gV T N) (fun _=>some B6) l;rw[this];cases hh:l.any (gV T N)with
   |true=>
    obtain⟨x,hx,hb⟩:=ati.1 hh;cases hfd:l.find? (gV T N)with
    |none=>simp_all
    |some y=>rfl
   |false=>simp_all
  rw[e];split<;>rfl
end
theorem Hi{A:Type}[DecidableEq A]{a b:List A}(hl:a.length=b.length):(if(List.range a.length).any (fun k=> !decide (a[k]?=b[k]?))=true then some (PV.bool false)else some (PV.bool true))=some (PV.bool (decide (a=b))):=by
 by_cases h:a=b
 ·subst h;simp
 ·rw[IN]
  ·simp[h]
  ·rw[ati];refine atg fun hn=>h (asB fun k=>?_);grind
theorem W0(x y:iY):cz [cell x.pv 0,cell x.pv 1,cell x.pv 2,cell x.pv 3] [cell y.pv 0,cell y.pv 1,cell y.pv 2,cell y.pv 3]=decide (x=y):=by obtain⟨a1,a2,a3,a4⟩:=x;obtain⟨b1,b2,b3,b4⟩:=y;simp[cell,iY.pv,PV.cells,cz,Ab.peq];rfl
theorem W2(x:iY):mK (Kd.int .i64::[].append (Kd.int .i64::[].append (Kd.int .i64::[].append (Kd.int .i64::[].append [])))) [cell x.pv 0,cell x.pv 1,cell x.pv 2,cell x.pv 3]=true:=rfl
theorem aaD(a b:List iY)(ha:a.length≤maxLen):gQ [.rs 4 (a.map iY.pv),.rs 4 (b.map iY.pv)]=some (.bool (decide (a=b))):=by
 have hm:=ai;have hr:=aw;simp only[gQ,nG,aS,U,AI,eC];by_cases hl:a.length=b.length
 ·rw[IS (by simp[hl])];refine(cX (fun k=>(a.map iY.pv,b.map iY.pv,(a.length:Int),(k:Int),())) a.length (fun k=> !decide (a[k]?=b[k]?)) (no:=some (.bool false)) (fin:=some (.bool true)) (fun k hk rec=>?_) (fun rec=>?_) (by omega) rfl).trans (Hi hl)
  ·unfold kr;dsimp only;rw[IN (by simp;omega),bn iY.pv a k hk,bn iY.pv b k (by omega),ab (by omega)];simp only[U,W2,W0,auM,BY,cN hk,cN (show k<b.length by omega),cO]
  simp[kr,IS]
 ·rw[IN (by simp;omega)];congr 2;grind
def EW(T:ay):Int:=match bK ((List.range 10).findSome? (sN T)) (some (uc 0 0 0))with
 |some (.aG [_,_,.int _ e])=>e
 |_=>0
theorem OA(T:ay):∃p i,bK ((List.range 10).findSome? (sN T)) (some (uc 0 0 0))=some (uc p i (EW T))∧(EW T=0→zp T):=by
 obtain⟨p,i,e,hw,hv⟩:=R2 T;have he:EW T=e:=by unfold EW;rw[hw];rfl
 grind
def okB(N:an)(q:iI)(O:HV):Bool:=cz [.int .i64 (PU q O.bw),.int .i64 (PW q O.bw),.int .i64 (dU N O.bw []).length,.int .i64 (Hj N.cap (gE N O.bw).sum),.int .i64 (Nb O.bw 0)] [.int .i64 O.dep,.int .i64 O.arr,.int .i64 O.b8,.int .i64 O.Nx,.int .i64 O.walk]&&decide ((gE N O.bw).l=O.jb)
noncomputable def ud(T:ay)(N:an)(q:iI)(O:HV):List Fact×Int:=
 if EW T≠0 then([],EW T)else if(iM N q O.bw).2≠0 then([],(iM N q O.bw).2)
 else if okB N q O=false then([],1)else if O.bw.any (gV T N)=true then([],16)
 else(C7 T N q O.bw O.bw.length++O.jb.map (pV O.bw),0)
def Kq(R:List Fact×Int):PV:=.aG [.rs 5 (R.1.map Fact.pv),.int .i64 R.2]
section
variable {T:ay} {N:an} {q:iI} {l:List bx}
theorem US(hN:N.Ok)(hp:N.paths.length≤4096)(R3:l.length≤12)(hz:(iM N q l).2=0):QK N q l∧rL N l=0:=by
 unfold iM at hz;split at hz
 ·rename_i hc;obtain⟨hv,hq⟩:=UT hN hp hc;by_cases h0:l.length=0
  ·have hl:l=[]:=aso h0;subst hl;exact⟨⟨hv,⟨fun k h=>by omega,fun k h=>by omega,fun k h=>by omega⟩,fun k h=>by rfl,R3⟩,rfl⟩
  ·rw[IS h0]at hz;split at hz
   ·rename_i hf;split at hz
    ·rename_i he;refine⟨⟨hv,PX hf,F2.1 hf,R3⟩,?_⟩;grind [F3,List.getElem?_eq_getElem]
    omega
   omega
 omega
theorem UU(out:List Rd)(x:bx):(rdStep N out x).length=out.length+if gW x=true then 1 else 0:=by unfold rdStep gW;grind
theorem L2:∀(l:List bx)(out:List Rd),(dU N l out).length=out.length+l.countP gW
 |[],out=>by rfl
 |x::r,out=>by rw[dU,L2 r,UU,aup];omega
theorem W3(l:List bx):∀k,k≤l.length→(EV l k).length=(l.take k).countP gW
 |0,_=>by rfl
 |k+1,hk=>by rw[AK l (by omega),asn,W3 l k (by omega),asr (by omega),List.countP_append,aup,List.countP_nil];split<;>simp
theorem aaE(l:List bx):(EV l l.length).length=(dU N l []).length:=by simp[W3,ast,asP,L2]
theorem UW(h:rL N l=0):(gE N l).l.length≤8∧∀t∈(gE N l).l,0≤t.fst∧t.fst<((EV l l.length).length:Int):=by
 unfold rL at h;split at h
 ·omega
 ·rename_i h8;split at h
  ·rename_i ho;refine⟨?_,fun t ht=>?_⟩
   ·grind [aaF,dU,gE]
   ·rw[aaE (N:=N)];exact adl ho t ht
  omega
theorem UX{O:HV}(sJ:T.Ok)(hT:FX T)(hN:N.Ok)(hp:N.paths.length≤4096)(hO:O.Ok)(R3:O.bw.length≤12):fR [T.pv,N.pv,q.pv,O.pv]=some (Kq (ud T N q O)):=by
 obtain⟨p,i,hw,hv⟩:=OA T;have hwp:=UY T sJ hT.small;rw[hw]at hwp;have hl6:O.bw.length≤1000000:=by omega
 have hcp:=adm (q:=q) hN hp hl6 hO.bw.2;simp only[fR,sO,ttA,tt0,tt1,tt2,tt3,tt4,tt5,tt6,tt7,tt8,tt9,Iu,Iv,Iw,ku,kv,kx,ky,kz,kA,kB,kC,kD,kE,zs,zt,zu,zw,zx,zy,zz,zA,zB,zC,zD,adn,ado,adp,adq,adr,ads,adt,adu,U,ttE,oN,EX,jF,aS,aI,hwp,uc,t3,O6,T1,hcp,t2,ac8 T hT,da,BY];unfold ud;by_cases h1:EW T=0
 ·rw[IS (show¬(EW T !=0)=true by simp[h1]),IS (show¬EW T≠0 by omega)];by_cases h2:(iM N q O.bw).2=0
  ·rw[IS (show¬((iM N q O.bw).2 !=0)=true by simp[h2]),IS (show¬(iM N q O.bw).2≠0 by omega)];obtain⟨hJ,Na⟩:=US (q:=q) hN hp R3 h2;have hce:=W4 (q:=q) hJ.val hJ.Hh hl6 hO.bw.2;have pk:pW N q O.bw=.aG [.agg [.int .i64 (PU q O.bw),.int .i64 (PW q O.bw),.int .i64 (dU N O.bw []).length,.int .i64 (Hj N.cap (gE N O.bw).sum),.int .i64 (Nb O.bw 0)],.rs 4 ((gE N O.bw).l.map iY.pv),.int .i64 0]:=by unfold pW;rw[IN Na]
   rw[hce,pk];obtain⟨ht8,kY⟩:=UW Na;have g5':∀a b c d e,[cell (PV.agg [a,b,c,d,e]) 0,cell (PV.agg [a,b,c,d,e]) 1,cell (PV.agg [a,b,c,d,e]) 2,cell (PV.agg [a,b,c,d,e]) 3,cell (PV.agg [a,b,c,d,e]) 4]=[a,b,c,d,e]:=fun a b c d e=>rfl;have c5:∀a b c d e:Int,mK (Kd.int .i64::[].append (Kd.int .i64::[].append (Kd.int .i64::[].append (Kd.int .i64::[].append (Kd.int .i64::[].append []))))) [.int .i64 a,.int .i64 b,.int .i64 c,.int .i64 d,.int .i64 e]=true:=fun a b c d e=>rfl;simp only[U,t3,O6,T1,g5,aS,aI,g5',c5,auM,BY,aaD _ _ (show(gE N O.bw).l.length≤maxLen by have:maxLen=9223372036854775807:=rfl;omega),aB,az];rw[show((0:Int) !=0)=false from rfl];rw[atb];have ajD:(!cz [PV.int .i64 (PU q O.bw),.int .i64 (PW q O.bw),.int .i64 (dU N O.bw []).length,.int .i64 (Hj N.cap (gE N O.bw).sum),.int .i64 (Nb O.bw 0)] [.int .i64 O.dep,.int .i64 O.arr,.int .i64 O.b8,.int .i64 O.Nx,.int .i64 O.walk]|| !decide ((gE N O.bw).l=O.jb))= !okB N q O:=by unfold okB;simp
   rw[ajD];by_cases h3:okB N q O=false
   ·rw[IN (by simp[h3]),IN h3];rfl
   ·have h3':okB N q O=true:=by simpa using h3
    rw[IS (by simp[h3']),IS h3];have R4:(gE N O.bw).l=O.jb:=by simp_all
    have hL:=aaC (q:=q) sJ hT (hv h1) hJ (gE N O.bw).l (by omega) kY;rw[R4]at hL⊢;refine hL.trans ?_;split<;>rfl
  ·rw[IN (show((iM N q O.bw).2 !=0)=true by simpa using h2),IN (show(iM N q O.bw).2≠0 from h2)];rfl
 ·rw[IN (show(EW T !=0)=true by simpa using h1),IN (show EW T≠0 from h1)];rfl
end
section
variable {T:ay} {N:an} {q:iI} {l:List bx}
theorem adv(x:cy):fA8 x.pv=x.pv:=rfl
theorem ajE(x:bx):fA9 x.pv=x.pv:=rfl
theorem adw(i:Nat)(hi:i<l.length)(hl:l.length≤12)(x:bx)(o:List PV):oAl (l.map bx.pv) (i:Int) x.pv o=some (.rs 5 (o++(J5 l i x).map Fact.pv)):=by
 unfold oAl;rw[WV l i hi hl];unfold J5;cases nxS l i with
 |true=>simp
 |false=>rfl
theorem L3(i:Nat)(hi:i<l.length)(hl:l.length≤12)(x:bx)(o:List PV):oBo (l.map bx.pv) (i:Int) x.pv o=some (.rs 5 (o++(boF i x++J5 l i x).map Fact.pv)):=by
 unfold oBo boF;simp only[iX,U];cases x.stay with
 |true=>rw[IS (by simp),IN rfl,adw i hi hl x o];rfl
 |false=>rw[IN (by rfl),IS (by simp)];simp only[lf,lh,U];rw[adw i hi hl x _,asT,←asD];rfl
theorem adx{a b:bx}{st:Bool}(hN:N.aH.length≤maxLen)(h:Fi N a b st=true)(k:Int→Option PV):oLk N.pv a.pv b.pv st k=k (ahi (lkI N a b st)):=by obtain⟨j,hj⟩:=RZ h;have:=link_ref hN a b st;unfold oLk;rw[show fA9 a.pv=a.pv from rfl,show fA9 b.pv=b.pv from rfl,this,hj];rfl
theorem ajF(o:List PV)(k i a b c:Int)(fs:List Fact):(o.append [fF k i a b c])++fs.map Fact.pv=o++(([(⟨k,i,a,b,c⟩:Fact)]++fs).map Fact.pv):=by show(o++[fF k i a b c])++fs.map Fact.pv=_;rw[asD];rfl
theorem ajG(h:QK N q l)(i:Nat)(hi:i<l.length)(hr:l[i].cu=true)(o:List PV):oJo N.pv (N.stops.map Stop.pv) (l.map bx.pv) (i:Int) l[i].pv o=some (.rs 5 (o++(joF N l l[i] i++(boF i l[i]++J5 l i l[i])).map Fact.pv)):=by
 have hf:=h.few;have hl:=h.val.ok.aH.1;cases i with
 |zero=>unfold oJo joF;rw[show decide (((0:Nat):Int)>0)=false from rfl];simp only[cond_false,U,cQ,IT,atC];exact L3 0 hi hf _ _
 |succ j=>
  obtain⟨⟨s,ZW,JF,hsm⟩,_⟩:=lB (h.Hh.WU (j+1) hi);have hch:=F1 ZW;unfold oJo;rw[joF,atA (show((j+1:Nat):Int)>0 by omega),ic j (by omega),bn bx.pv l j (by omega),cN (show j<l.length by omega)];simp only[cond_true,U,jL];by_cases ha:l[j].cu=true
  ·obtain⟨l1,l2⟩:=h.aH hi ha hr;rw[IN ha,IN ha];simp only[ko,kq,lf,iX,U,aV Stop.pv JF ZW,Iy,←hch];by_cases hs:l[j+1].stay=true
   ·rw[IN hs,IN hs,adx hl (l1 hs),L3 (j+1) hi hf];exact congrArg (fun z=>some (PV.rs 5 z)) (ajF o _ _ _ _ _ _)
   ·rw[IS hs,IS hs];by_cases hc:IntKind.i64.wrap (l[j+1].dep-l[j].arr)≥Hg N l[j+1].src
    ·rw[IN (by simpa using hc),IN hc,L3 (j+1) hi hf];exact congrArg (fun z=>some (PV.rs 5 z)) (ajF o _ _ _ _ _ _)
    ·rw[IS (by simpa using hc),IS hc,adx hl (l2 (by simpa using hs) hc),L3 (j+1) hi hf];exact congrArg (fun z=>some (PV.rs 5 z)) (ajF o _ _ _ _ _ _)
  ·rw[IS ha,IS ha,L3 (j+1) hi hf];rfl
theorem ady(sJ:T.Ok)(hT:FX T)(h:QK N q l)(i:Nat)(hi:i<l.length)(Wr:gV T N l[i]=false):sP [T.pv,N.pv,q.pv,Kr l,.int .i64 (i:Int)]=some (.rs 5 ((lgF T N q l i).map Fact.pv)):=by
 have hf:=h.few;have hmx:maxLen=9223372036854775807:=rfl;have hc:=hT.dp;have hx:=hT.jK;have TP:lgF T N q l i=Ix T N q l i l[i]:=by grind [lgF,List.getElem?_eq_getElem]
 rw[TP];simp only[sP,C8,ttA,tt0,tt1,tt2,tt3,tt4,tt5,tt6,tt7,tt8,tt9,Iu,Iv,Iw,ku,kv,kx,ky,kz,kA,kB,kC,kD,kE,zs,zt,zu,zw,zx,zy,zz,zA,zB,zC,zD,jA,j0,U,ttE,oN,EX,aS,aI,bn bx.pv l i hi,jL,lj,ajE,adv];by_cases hr:l[i].cu=true
 ·obtain⟨r,t,a,c,hR⟩:=wM h.val ((lB (h.Hh.WU i hi)).2.2.1 hr);have hrn:ub N l[i]=some r:=by unfold ub;rw[IN hR.pC];exact hR.run
  obtain⟨v,hS⟩:∃v,fQ T r=some v:=by
   have asg:(fQ T r).isNone=false:=by simp_all[gV]
   cases hS:fQ T r with
   |some v=>simp
   |none=>simp_all
  obtain⟨s,hs,hsv⟩:=It T sJ hT r;have hs':=hsv v hS;subst hs';rw[hS]at hs;have e0:Ab.asInt .i64 (cell r.pv 0)=some r.bD:=rfl;have hfc:Ix T N q l i l[i]=LY T N l i l[i] r s:=by simp_all[Ix,IN]
  rw[hfc,IS (by simp[hr]),aV cy.pv hR.pC hR.run];simp only[U,adv,hs,t2,O6,T1,aI,aB,e0];have serve:∀c,oSv T.pv N.pv (N.stops.map Stop.pv) (l.map bx.pv) (i:Int) l[i].pv r.pv s c=some (.rs 5 (([(⟨1,i,c,s,r.bD⟩:Fact),⟨2,i,l[i].dep,l[i].arr,JE (rZ T r s) r l[i].ca⟩]++(joF N l l[i] i++(boF i l[i]++J5 l i l[i]))).map Fact.pv)):=by intro c;unfold oSv;simp only[e0,ko,kq,lh,U,show fA8 r.pv=r.pv from rfl,adb T sJ hT r hS hR.Iz hR.ca,aI];rw[ajG h i hi hr,asT (l₁:=[(⟨1,i,c,s,r.bD⟩:Fact),⟨2,i,l[i].dep,l[i].arr,JE (rZ T r s) r l[i].ca⟩])];rfl
  unfold LY PS;by_cases h0:r.bD≥0
  ·rw[IN (by simpa using h0),IN h0];have hx:∃x,T.ae[r.bD.toNat]?=some x:=by
    cases hh:T.ae[r.bD.toNat]? with
    |some x=>simp
    |none=>unfold fQ at hS;grind
   obtain⟨x,hx⟩:=hx;have e2:Ab.asInt .i64 (cell x.pv 2)=some x.wI:=rfl;rw[hx,aV br.pv h0 hx];grind [U,aiD,L4,aI,serve]
  grind
 ·have Cz:l[i].cu=false:=by simpa using hr
  have hN:N.paths.length≤maxLen:=by have:=h.val.ok.paths.1;omega
  have hfc:Ix T N q l i l[i]=LZ N q i l[i]:=by unfold Ix;rw[IS hr]
  obtain⟨j,p,h1,h2,h3⟩:=R0 (h.walk hi Cz);have hp:=ahh (q:=q) hN l[i];rw[h1]at hp;have RW:dB (N.paths.map Path.pv) (j:Int)=some p.pv:=aV Path.pv (by omega) (by simp_all);rw[hfc,IN (by simp[Cz])];simp only[hp,U,aI,RW,pt3,ko,kq,←h3];unfold LZ;simp only[h1,h2];cases p.free<;>rfl
theorem adz(l:List bx):∀n,n≤l.length→∀r b,(EV l n)[r]?=some b→b<n∧(EV l b).length=r∧(EV l (b+1)).length=r+1
 |0,_,r,b,h=>by simp[EV]at h
 |n+1,hn,r,b,h=>by
  have hs:=AK l (show n<l.length by omega);rw[hs]at h;by_cases hr:r<(EV l n).length
  ·rw[as4 hr]at h;have:=adz l n (by omega) r b h;omega
  grind
theorem adA(l:List bx){i j:Nat}(h:i≤j):(EV l i).length≤(EV l j).length:=by
 have:∀d,i+d=j→(EV l i).length≤(EV l j).length:=fun d hd=>by grind [EV,List.range_add,List.length_append]
 exact this (j-i) (by omega)
theorem aaG(hl:l.length≤12)(r:Int)(h0:0≤r)(h1:r<((EV l l.length).length:Int)):mW [Kr l,.int .i64 r]=some (.int .i64 (aaA l r)):=by
 have cd:r.toNat<(EV l l.length).length:=by omega
 obtain⟨b,hb⟩:∃b,(EV l l.length)[r.toNat]?=some b:=⟨_,cN cd⟩;obtain⟨b1,b2,b3⟩:=adz l l.length (ast _) _ _ hb;have Cy:aaA l r=(b:Int):=by unfold aaA;rw[hb]
 simp only[mW,wN,jA,j0,U,aI];refine(aC (fun k=>(r,((EV l k).length:Int)-1,(k:Int),l.map bx.pv,())) l.length (fun k=>if decide (((EV l (k+1)).length:Int)-1=r)=true then some (some (PV.int .i64 (k:Int)))else none) (fin:=some (PV.int .i64 0)) (fun k hk rec=>?_) (fun rec=>?_) (by unfold rounds;omega) rfl).trans ?_
 ·have hs:=AK l hk;have Us:=WZ l k;unfold pX;dsimp only;rw[IN (by simp;omega),bn bx.pv l k hk,aZ (by omega) (by omega),ab (by omega)];simp only[U,jL,iX,aJ];by_cases hb:gW l[k]=true
  ·rw[hs,IN hb,asn,asN];unfold gW at hb;rw[IN hb,show(((EV l k).length:Int)-1+1)=(((EV l k).length+1:Nat):Int)-1 by omega,bT];exact FY _ _ _
  ·rw[hs,IS hb,atf];unfold gW at hb;rw[IS hb,bT];exact FY _ _ _
 ·simp[pX,IS]
 ·rw[Hf,Cy];have:(List.range l.length).find? (fun k=>decide (((EV l (k+1)).length:Int)-1=r))=some b:=by rw[atP];refine⟨by grind,ath.2 b1,fun j hj=>?_⟩;have:=adA l (show j+1≤b by omega);grind
  rw[this]
theorem adB(a b:List iY)(ha:a.length≤maxLen):jc [.rs 4 (a.map iY.pv),.rs 4 (b.map iY.pv)]=some (.bool (decide (a=b))):=by
 have hm:=ai;have hr:=aw;simp only[jc,pY,aS,U,AI,eC];by_cases hl:a.length=b.length
 ·rw[IS (by simp[hl])];refine(cX (fun k=>(a.map iY.pv,b.map iY.pv,(k:Int),())) a.length (fun k=> !decide (a[k]?=b[k]?)) (no:=some (.bool false)) (fin:=some (.bool true)) (fun k hk rec=>?_) (fun rec=>?_) (by omega) rfl).trans (Hi hl)
  ·unfold mn;dsimp only;rw[IN (by simp;omega),bn iY.pv a k hk,bn iY.pv b k (by omega),ab (by omega)];simp only[U,W2,W0,auM,BY,cN hk,cN (show k<b.length by omega),cO]
  simp[mn,IS]
 ·rw[IN (by simp;omega)];congr 2;grind
variable{X:Type}
def rT(T:ay)(x:X):=(T.stops.map Stop.pv,T.aj.map ax.pv,T.dp.map mL.pv,T.jK.map pF.pv,T.ae.map br.pv,T.bV.map bl.pv,T.vf.map iJ.pv,T.lO.map gD.pv,T.paths.map Path.pv,T.aK.map aM.pv,T.bp,T.within,T.cap,x)
def rN(N:an)(q:iI)(x:X):=(N.stops.map Stop.pv,N.aj.map ax.pv,N.runs.map cy.pv,N.aH.map bq.pv,N.paths.map Path.pv,N.aK.map aM.pv,N.bp,N.within,N.cap,q.src,q.dst,q.time,q.back,q.b8,q.walk,q.free,q.rI,q.bQ,q.HU,x)
def rO(O:HV)(x:X):=(O.bw.map bx.pv,O.dep,O.arr,O.b8,O.Nx,O.walk,O.jb.map iY.pv,x)
variable{O:HV}
theorem UZ(hl:O.bw.length≤12)(jb:List iY)(ht:jb.length≤1000)(kY:∀t∈jb,0≤t.fst∧t.fst<((EV O.bw O.bw.length).length:Int))(o:List Fact)(ho:o.length≤1000):bd.run (pZ bd) (jb.map iY.pv,0,rO O (o.map Fact.pv,()))=some (.aG [.rs 5 ((o++jb.map (pV O.bw)).map Fact.pv),.int .i64 0]):=by
 refine bg (fun k=>(jb.map iY.pv,(k:Int),rO O ((o++(jb.take k).map (pV O.bw)).map Fact.pv,()))) jb.length (fun k hk rec=>?_) (fun rec=>?_) (by unfold rounds;omega) (by simp)
 ·have hm:=kY _ (aqW hk);have t0:∀t:iY,Ab.asInt .i64 (cell t.pv 0)=some t.prod:=fun t=>rfl;have t1:∀t:iY,Ab.asInt .i64 (cell t.pv 1)=some t.fst:=fun t=>rfl;have t2:∀t:iY,Ab.asInt .i64 (cell t.pv 2)=some t.lst:=fun t=>rfl;have t3:∀t:iY,Ab.asInt .i64 (cell t.pv 3)=some t.jM:=fun t=>rfl;have hl2:((o++(jb.take k).map (pV O.bw)).map Fact.pv).length≤100000:=by simp;omega
  rw[show(o++(jb.take (k+1)).map (pV O.bw)).map Fact.pv=(o++(jb.take k).map (pV O.bw)).map Fact.pv++[(pV O.bw jb[k]).pv] by rw[asr hk];grind];generalize (o++(jb.take k).map (pV O.bw)).map Fact.pv=oo at*;unfold pZ rO;dsimp only;rw[IN (by simp;omega),bn iY.pv jb k hk];simp only[U,t0,t1,t2,t3,jF,aaG hl _ hm.1 hm.2,aI,ab (show k<9223372036854775807 by omega)];rw[IN (by grind [List.length_append,List.length_singleton,ah])];rfl
 simp[pZ,rO,IS,asP]
theorem aaH(sJ:T.Ok)(hT:FX T)(h:QK N q O.bw)(Wr:O.bw.any (gV T N)=false)(jb:List iY)(ht:jb.length≤900)(kY:∀t∈jb,0≤t.fst∧t.fst<((EV O.bw O.bw.length).length:Int)):bd.run (mo bd) (jb.map iY.pv,O.bw.map bx.pv,0,rT T (rN N q (rO O ([],()))))=some (.aG [.rs 5 ((C7 T N q O.bw O.bw.length++jb.map (pV O.bw)).map Fact.pv),.int .i64 0]):=by
 have hf:=h.few;refine bg (fun k=>(jb.map iY.pv,O.bw.map bx.pv,(k:Int),rT T (rN N q (rO O ((C7 T N q O.bw k).map Fact.pv,()))))) O.bw.length (fun k hk rec=>?_) (fun rec=>?_) (by unfold rounds;omega) rfl
 ·have hb:gV T N O.bw[k]=false:=by simp_all
  have hol:=ady sJ hT h k hk hb;have h1:=AL (T:=T) (N:=N) (q:=q) (l:=O.bw) k;have h2:=WS T N q O.bw k;rw[IA,asT];unfold mo rT rN rO;dsimp only;rw[IN (by simp;omega),ttE,oN,EX,jF,hol];simp only[U,aS,ab (show k<9223372036854775807 by omega)];rw[IN (by grind [List.length_append,List.length_map,ah])]
 ·have h1:=AL (T:=T) (N:=N) (q:=q) (l:=O.bw) O.bw.length;rw[←UZ hf jb (by omega) kY _ (show(C7 T N q O.bw O.bw.length).length≤1000 by omega)];simp[mo,rT,rN,rO,IS]
theorem U0(sJ:T.Ok)(hT:FX T)(h:QK N q O.bw)(jb:List iY)(ht:jb.length≤900)(kY:∀t∈jb,0≤t.fst∧t.fst<((EV O.bw O.bw.length).length:Int)):bd.run (qd bd) (jb.map iY.pv,O.bw.map bx.pv,0,rT T (rN N q (rO O ())))=if O.bw.any (gV T N)=true then some B6 else some (.aG [.rs 5 ((C7 T N q O.bw O.bw.length++jb.map (pV O.bw)).map Fact.pv),.int .i64 0]):=by
 have hf:=h.few;have e:((List.range O.bw.length).findSome? fun k=>(O.bw[k]?).bind fun x=>if gV T N x=true then some (some B6)else none)=if O.bw.any (gV T N)=true then some (some B6)else none:=by
  have:=AM (gV T N) (fun _=>some B6) O.bw;rw[this];cases hh:O.bw.any (gV T N)with
  |true=>
   obtain⟨x,hx,hb⟩:=ati.1 hh;cases hfd:O.bw.find? (gV T N)with
   |none=>simp_all
   |some y=>rfl
  |false=>simp_all
 refine(aC (fun k=>(jb.map iY.pv,O.bw.map bx.pv,(k:Int),rT T (rN N q (rO O ())))) O.bw.length (fun k=>(O.bw[k]?).bind fun x=>if gV T N x=true then some (some B6)else none) (fin:=bd.run (mo bd) (jb.map iY.pv,O.bw.map bx.pv,0,rT T (rN N q (rO O ([],()))))) (fun k hk rec=>?_) (fun rec=>?_) (by unfold rounds;omega) rfl).trans ?_
 ·rw[cN hk];simp only[U];unfold qd rT rN rO;dsimp only;rw[IN (by simp;omega),bn bx.pv O.bw k hk,ab (by omega)];simp only[U,jL,lj];by_cases hr:O.bw[k].cu=true
  ·obtain⟨r,t,a,c,hR⟩:=wM h.val ((lB (h.Hh.WU k hk)).2.2.1 hr);have hrn:ub N O.bw[k]=some r:=by unfold ub;rw[IN hR.pC];exact hR.run
   obtain⟨s,hs,_⟩:=It T sJ hT r;have Wr:gV T N O.bw[k]=(fQ T r).isNone:=by unfold gV;rw[hr,hrn];rfl
   rw[IN hr,aV cy.pv hR.pC hR.run,Wr];simp only[U,aqr,ttE,hs,t2,O6,T1,aI,aB];cases fQ T r<;>rfl
  ·have Wr:gV T N O.bw[k]=false:=by unfold gV;simp_all
   rw[IS hr,Wr,IS (by simp)];rfl
 ·simp[qd,rT,rN,rO,IS]
 ·rw[e];cases Wr:O.bw.any (gV T N)with
  |true=>rfl
  |false=>rw[IS (by simp),IS (by simp),←aaH sJ hT h Wr jb ht kY];rfl
theorem aaI(sJ:T.Ok)(hT:FX T)(hN:N.Ok)(hp:N.paths.length≤4096)(hO:O.Ok)(R3:O.bw.length≤12):sQ [T.pv,N.pv,q.pv,O.pv]=some (Kq (ud T N q O)):=by
 obtain⟨p,i,hw,hv⟩:=OA T;have hwp:=aaJ T sJ hT.small;rw[hw]at hwp;have hl6:O.bw.length≤1000000:=by omega
 have hcp:=ahk (q:=q) hN hp hl6 hO.bw.2;simp only[sQ,C9,ttA,tt0,tt1,tt2,tt3,tt4,tt5,tt6,tt7,tt8,tt9,Iu,Iv,Iw,ku,kv,kx,ky,kz,kA,kB,kC,kD,kE,zs,zt,zu,zw,zx,zy,zz,zA,zB,zC,zD,adn,ado,adp,adq,adr,ads,adt,adu,U,ttE,oN,EX,jF,aS,aI,hwp,uc,t3,O6,T1,hcp,t2];unfold ud;by_cases h1:EW T=0
 ·rw[IS (show¬(EW T !=0)=true by simp[h1]),IS (show¬EW T≠0 by omega)];by_cases h2:(iM N q O.bw).2=0
  ·rw[IS (show¬((iM N q O.bw).2 !=0)=true by simp[h2]),IS (show¬(iM N q O.bw).2≠0 by omega)];obtain⟨hJ,Na⟩:=US (q:=q) hN hp R3 h2;have hce:=R5 (q:=q) hJ.val hJ.Hh hl6 hO.bw.2;have pk:pW N q O.bw=.aG [.agg [.int .i64 (PU q O.bw),.int .i64 (PW q O.bw),.int .i64 (dU N O.bw []).length,.int .i64 (Hj N.cap (gE N O.bw).sum),.int .i64 (Nb O.bw 0)],.rs 4 ((gE N O.bw).l.map iY.pv),.int .i64 0]:=by unfold pW;rw[IN Na]
   rw[hce,pk];obtain⟨ht8,kY⟩:=UW Na;have g5':∀a b c d e,[cell (PV.agg [a,b,c,d,e]) 0,cell (PV.agg [a,b,c,d,e]) 1,cell (PV.agg [a,b,c,d,e]) 2,cell (PV.agg [a,b,c,d,e]) 3,cell (PV.agg [a,b,c,d,e]) 4]=[a,b,c,d,e]:=fun a b c d e=>rfl;have c5:∀a b c d e:Int,mK (Kd.int .i64::[].append (Kd.int .i64::[].append (Kd.int .i64::[].append (Kd.int .i64::[].append (Kd.int .i64::[].append []))))) [.int .i64 a,.int .i64 b,.int .i64 c,.int .i64 d,.int .i64 e]=true:=fun a b c d e=>rfl;simp only[U,t3,O6,T1,g5,aS,aI,g5',c5,auM,BY,adB _ _ (show(gE N O.bw).l.length≤maxLen by have:maxLen=9223372036854775807:=rfl;omega),aB,az];have ajD:(!cz [PV.int .i64 (PU q O.bw),.int .i64 (PW q O.bw),.int .i64 (dU N O.bw []).length,.int .i64 (Hj N.cap (gE N O.bw).sum),.int .i64 (Nb O.bw 0)] [.int .i64 O.dep,.int .i64 O.arr,.int .i64 O.b8,.int .i64 O.Nx,.int .i64 O.walk]|| !decide ((gE N O.bw).l=O.jb))= !okB N q O:=by unfold okB;simp
   rw[ajD];by_cases h3:okB N q O=false
   ·rw[IN (by simp[h3]),IN h3];rfl
   ·have h3':okB N q O=true:=by simpa using h3
    rw[IS (by simp[h3']),IS h3];have R4:(gE N O.bw).l=O.jb:=by simp_all
    have hL:=U0 (O:=O) sJ hT hJ (gE N O.bw).l (by omega) kY;rw[R4]at hL⊢;refine hL.trans ?_;split<;>rfl
  ·rw[IN (show((iM N q O.bw).2 !=0)=true by simpa using h2),IN (show(iM N q O.bw).2≠0 from h2)];rfl
 ·rw[IN (show(EW T !=0)=true by simpa using h1),IN (show EW T≠0 from h1)];rfl
end
end Go.Ab.Tt
