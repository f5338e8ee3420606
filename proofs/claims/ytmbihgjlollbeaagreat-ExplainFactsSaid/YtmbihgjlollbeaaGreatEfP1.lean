import Derived.Test.YtmbihgjlollbeaaGreatRnP1
import Derived.Test.YtmbihgjlollbeaaGreatEkO
namespace Go.Ab.Tt
set_option maxRecDepth 100000
set_option linter.all false
structure Io(T:az):Prop where
 stops:T.stops.length≤70
 dm:T.dm.length≤70
 jJ:T.jJ.length≤40
 ae:T.ae.length≤12
 bU:T.bU.length≤100
 small:Small T
def fO(T:az)(r:cy):Option Int:=
 if r.bD= -1 then some (-1)else if r.bD<0 then none else match T.ae[r.bD.toNat]? with
 |none=>none
 |some x=>if x.id=r.id then(if yA T.dm T.jJ x.wB r.day=true then(if ER T.bU r.bD=true then(if r.inst<0 then none else(instI T.bU r.bD)[r.inst.toNat]?)else if r.inst=0 then some (-1)else none)else none)else none
def rW(T:az)(r:cy)(s:Int):List aY:=if r.bD<0 then[]else match T.ae[r.bD.toNat]? with
 |none=>[]
 |some x=>if s≥0 then uY x.calls s else x.calls
theorem agX(s:Bytes):aO (.str s)=some s:=rfl
variable{T:az}
theorem acY{i:Int}(h0:¬i<0)(h1:¬i≥(T.ae.length:Int)):∃x,T.ae[i.toNat]?=some x∧dA (T.ae.map br.pv) i=some x.pv:=by
 have h:i.toNat<T.ae.length:=by omega
 exact⟨_,cN h,aV br.pv (by omega) (cN h)⟩
theorem Ip(T:az)(uM:T.Ok)(hT:Io T)(r:cy):∃s,kW [T.pv,r.pv]=some (.aG [.int .i64 s,.bool (fO T r).isSome])∧∀v,fO T r=some v→s=v:=by
 have hm:=ai;have hmx:maxLen=9223372036854775807:=rfl;have hc:=hT.dm;have hx:=hT.jJ;have hf:=hT.bU;simp only[kW,CY,ttA,tt0,tt1,tt2,tt3,tt4,tt5,tt6,tt7,tt8,tt9,LK,LL,LM,agY,pB,Uz,UA,UB,JX,UC,UD,CZ,aS,aI,aB,agX,U,AI,bX,cT,ay];unfold fO;by_cases h1:r.bD= -1
 ·simp_all
 rw[IT h1,IT h1];by_cases h2:r.bD<0
 ·simp_all
 rw[IT h2];by_cases h3:r.bD≥(T.ae.length:Int)
 ·simp_all
 obtain⟨x,hx1,hx2⟩:=acY h2 h3;rw[IT (by simp[h2,h3]),hx2,hx1];have e0:aO (cell x.pv 0)=some x.id:=rfl;have e2:Ab.asInt .i64 (cell x.pv 2)=some x.wB:=rfl;simp only[U,e0,e2,UE T.dm (by omega) T.jJ (by omega),aB,aal T.bU (by omega),acZ T.bU (by omega),aS,AI];by_cases h4:x.id=r.id
 ·by_cases h5:yA T.dm T.jJ x.wB r.day=true
  ·simp only[h4,h5,asq,aiI,cond_false,U,cQ,IS,BY];by_cases h6:ER T.bU r.bD=true
   ·simp only[h6,aiI,cQ,IS,BY];by_cases h7:r.inst<0
    ·simp_all
    ·by_cases h8:r.inst≥((instI T.bU r.bD).length:Int)
     ·simp_all
     ·have hi:r.inst.toNat<(instI T.bU r.bD).length:=by omega
      rw[IT (by simp[h7,h8]),IT h7,aV iv (by omega) (cN hi),cN hi];refine⟨(instI T.bU r.bD)[r.inst.toNat],rfl,fun v h=>by cases h;rfl⟩
   ·simp only[h6,asr,BY,cQ,IS];refine⟨-1,?_,fun v h=>?_⟩
    ·grind
    simp_all
  simp_all
 simp_all
section
variable {K:Type} [DecidableEq K]
def LN(a:K)(m:List (K×PV)):Bool:=m.any fun x=>decide (a=x.1)
theorem G8(a b:K)(v:PV):∀m:List (K×PV),LN a (C0 b v m)=(decide (a=b)||LN a m)
 |[]=>by rfl
 |(c,u)::r=>by
  simp only[C0];by_cases h:b=c
  ·subst h;simp[LN]
  ·have:=G8 a b v r;unfold LN at this⊢;grind
variable {key:K→PV} (hk:∀a b,cz (key a).cells (key b).cells=decide (a=b))
include hk
theorem RP(a:K):∀m,yb (key a) (rI key m)=LN a m
 |[]=>rfl
 |(b,u)::r=>by have:=RP a r;simp only[rI]at this;simp only[rI,asn,yb,hk,LN,at5,this]
end
theorem LO{A B:Type}:∀m:List (A×B),(m.map fun x=>x.fst).zip (m.map fun x=>x.snd)=m
 |[]=>rfl
 |(a,b)::r=>by simp[asn,auI,LO]
def im(l:List br):Nat→List (Bytes×PV)
 |0=>[]
 |k+1=>match l[k]? with
  |some x=>C0 x.id (.int .i64 k) (im l k)
  |none=>im l k
theorem C1(l:List br)(a:Bytes):∀k,LN a (im l k)=true↔∃j x,j<k∧l[j]?=some x∧x.id=a
 |0=>by simp[im,LN]
 |k+1=>by
  have ih:=C1 l a k;unfold im;constructor
  ·intro h;split at h
   ·rename_i x hx;rw[G8,asu,cT]at h;grind
   grind
  ·rintro⟨j,y,h1,h2,h3⟩;by_cases e:j=k
   ·simp_all[G8]
   ·have:=ih.2 ⟨j,y,by omega,h2,h3⟩;split
    ·rw[G8,this,au7]
    omega
theorem Ba{T:az}(hV:zk T){j:Nat}{x:br}(hx:T.ae[j]?=some x)(z:PV):∀k,j<k→yB x.id z (im T.ae k)=.int .i64 j
 |0,h=>by omega
 |k+1,h=>by
  unfold im;by_cases e:j=k
  ·subst e;rw[hx];simp only;rw[vM,IN rfl]
  ·have ih:=Ba hV hx z k (by omega);split
   ·rename_i y hy;rw[vM,IT (fun hh=>e (agZ hV hx hy hh)),ih]
   omega
def wC(T:az):List PV:=(rI PV.str (im T.ae T.ae.length)).map fun x=>x.fst
def wE(T:az):List PV:=(rI PV.str (im T.ae T.ae.length)).map fun x=>x.snd
theorem ac0(T:az)(hT:Io T):oc [T.pv]=some (.rm 9 (wC T) (wE T)):=by
 have ht:=hT.ae;simp only[oc,zl,ttA,tt0,tt1,tt2,tt3,tt4,tt5,tt6,tt7,tt8,tt9,LK,LL,LM,aS,aI,U,AI];refine bf (fun k=>(T.ae.map br.pv,(T.ae.length:Int),(k:Int),rI PV.str (im T.ae k),())) T.ae.length (fun k hk rec=>?_) (fun rec=>?_) (by unfold rounds;omega) rfl
 ·unfold rX;dsimp only;have e0:aO (cell (T.ae[k]).pv 0)=some (T.ae[k]).id:=rfl;rw[IN (by simp;omega),bp br.pv T.ae k hk,ab (by omega)];simp_all[U,Kf,mS,im,cN]
 ·unfold rX;dsimp only;rw[IT (by simp)];rfl
theorem aam(a:Bytes)(z:PV):cB (.str a) z ((wC T).zip (wE T))=yB a z (im T.ae T.ae.length):=by simp[wC,wE,LO,G9,mS]
theorem ac1(a:Bytes):yb (.str a) ((wC T).zip (wE T))=LN a (im T.ae T.ae.length):=by simp[wC,wE,LO,RP,mS]
theorem Ov{l:List br}(a:Bytes):∀k,∃n,yB a (.int .i64 0) (im l k)=.int .i64 n
 |0=>⟨0,rfl⟩
 |k+1=>by
  obtain⟨n,hn⟩:=Ov (l:=l) a k;unfold im;split
  ·rw[vM];grind
  ·exact⟨n,hn⟩
theorem UF(T:az)(uM:T.Ok)(hT:Io T)(hV:zk T)(r:cy):∃(a s:Int)(cs:PV),lM [T.pv,.rm 9 (wC T) (wE T),r.pv]=some (.aG [.agg [.int .i64 a,.int .i64 s,cs],.bool (fO T r).isSome])∧∀v,fO T r=some v→a=r.bD∧s=v∧ao 5 cs=some ((rW T r v).map aY.pv):=by
 have hm:=ai;have hmx:maxLen=9223372036854775807:=rfl;have hc:=hT.dm;have hx:=hT.jJ;have hf:=hT.bU;simp only[lM,tV,cY,ttA,tt0,tt1,tt2,tt3,tt4,tt5,tt6,tt7,tt8,tt9,LK,LL,LM,agY,pB,Uz,UA,UB,JX,UC,UD,CZ,aS,aI,aB,agX,U,AI,bX,eC,cT,ay,BY,aam,ac1];by_cases h1:r.bD= -1
 ·unfold fO;rw[IN h1,IN h1];refine⟨-1,-1,.rs 0 [],rfl,fun v h=>?_⟩;cases h;refine⟨h1.symm,rfl,?_⟩;unfold rW;rw[IN (by omega)];rfl
 rw[IT h1];obtain⟨n,hn⟩:=Ov (l:=T.ae) r.id T.ae.length;rw[hn];simp only[aI,U];by_cases hh:LN r.id (im T.ae T.ae.length)=true∧n=r.bD
 ·obtain⟨hh1,rfl⟩:=hh;obtain⟨j,x,_,hx1,hx2⟩:=(C1 T.ae r.id _).1 hh1;have hj:j<T.ae.length:=(Qs.1 hx1).1;have hl:=Ba hV hx1 (.int .i64 0) _ hj;rw[hx2,hn]at hl;have hrj:r.bD=(j:Int):=by simpa using hl
  have hxt:T.ae[r.bD.toNat]?=some x:=by simp_all
  have RQ:dA (T.ae.map br.pv) r.bD=some x.pv:=aV br.pv (by omega) hxt;have e2:Ab.asInt .i64 (cell x.pv 2)=some x.wB:=rfl;have e4:ao 5 (cell x.pv 4)=some (x.calls.map aY.pv):=rfl;have hS:fO T r=if yA T.dm T.jJ x.wB r.day=true then(if ER T.bU r.bD=true then(if r.inst<0 then none else(instI T.bU r.bD)[r.inst.toNat]?)else if r.inst=0 then some (-1)else none)else none:=by simp_all[fO,IT,IN]
  have hC:∀v,rW T r v=if v≥0 then uY x.calls v else x.calls:=fun v=>by simp_all[rW,IT]
  simp only[hh1,eq_self,aiI,asq,avq,cond_false,U,RQ,e2,RR T.dm (by omega) T.jJ (by omega),aB,RS T.bU (by omega),aan T.bU (by omega),aS,AI,e4];rw[hS];by_cases h5:yA T.dm T.jJ x.wB r.day=true
  ·simp only[h5,aiI,cQ,IS,BY];by_cases h6:ER T.bU r.bD=true
   ·simp only[h6,aiI,cQ,IS,BY];by_cases h7:r.inst<0
    ·simp_all
    ·by_cases h8:r.inst≥((instI T.bU r.bD).length:Int)
     ·simp_all
     ·have hi:r.inst.toNat<(instI T.bU r.bD).length:=by omega
      have bB:(instI T.bU r.bD)[r.inst.toNat]∈instI T.bU (j:Int):=by simp_all
      have hrg:=instI_range _ _ _ bB;have oI:=UG hV hx1 bB;rw[IT (by simp[h7,h8]),IT h7,aV iv (by omega) (cN hi),cN hi];generalize (instI T.bU r.bD)[r.inst.toNat]=w at*;have e5:PV.agg [cell x.pv 0,cell x.pv 1,cell x.pv 2,cell x.pv 3,cell x.pv 4]=x.pv:=rfl;have e6:Ab.asInt .i64 (cell (iv w) 0)=some w:=rfl;have ajj:x.Ok:=uM.ae.2 x (asb hx1);have hfc:=aao x ajj w ((yC w).2 (by omega)) (hT.small x (asb hx1));have t2:∀a b:PV,cg 2 (.aG [a,b])=some [a,b]:=fun a b=>rfl;simp only[U,e5,e6,hfc,t2,abm,ahH,aS,aI,oI];refine⟨r.bD,w,_,rfl,fun v h=>?_⟩;cases h;refine⟨rfl,rfl,?_⟩;simp_all[IN,aS]
   ·simp only[h6,asr,BY,cQ,IS];by_cases h7:r.inst=0
    ·simp only[h7,asq,BY];refine⟨r.bD,-1,_,rfl,fun v h=>?_⟩;cases h;refine⟨rfl,rfl,?_⟩;simp_all[IT,aS]
    simp_all
  simp_all
 ·have hS:fO T r=none:=by
   unfold fO;rw[IT h1];split
   ·rfl
   ·rename_i h2;split
    ·rfl
    ·rename_i x hx;split
     ·grind [Ba,C1]
     rfl
  rw[hS];have hb:(!LN r.id (im T.ae T.ae.length)|| !decide (n=r.bD))=true:=by grind
  rw[hb];simp_all
theorem Ha(p:Nat→Bool)(n:Nat)(fin:Option PV):bK ((List.range n).findSome? fun k=>if p k=true then some (some (PV.int .i64 (k:Int)))else none) fin=match(List.range n).find? p with|some k=>some (.int .i64 (k:Int))|none=>fin:=by
 have:∀l:List Nat,bK (l.findSome? fun k=>if p k=true then some (some (PV.int .i64 (k:Int)))else none) fin=match l.find? p with|some k=>some (.int .i64 (k:Int))|none=>fin:=by
  intro l;induction l with
  |nil=>rfl
  |cons a l ih=>
   rw[asW,aus];cases h:p a with
   |true=>rfl
   |false=>simp_all
 exact this _
theorem ag0(s a b c d:Bool):(s&&a&&b&&c&&d)=(a&&b&&c&&d&&s):=by grind
theorem FT(b:Bool)(x r:Option PV):(if b=true then x else r)=bK (if b=true then some x else none) r:=by cases b<;>rfl
def lkP(N:an)(a b:bx)(st:Bool)(k:Nat):Bool:=match N.aH[k]? with|some x=>lkB a b st x|none=>false
def lkI(N:an)(a b:bx)(st:Bool):Option Nat:=(List.range N.aH.length).find? (lkP N a b st)
def ptP(N:an)(q:iJ)(x:bx)(k:Nat):Bool:=match N.paths[k]? with|some p=>wkB x p&&(p.free|| !q.free)|none=>false
def ptI(N:an)(q:iJ)(x:bx):Option Nat:=(List.range N.paths.length).find? (ptP N q x)
variable{N:an}
theorem RT{a b:bx}{st:Bool}(h:Fe N a b st=true):∃k,lkI N a b st=some k:=by
 unfold Fe at h;obtain⟨x,hx,hb⟩:=atd.1 h;obtain⟨k,hk⟩:=ast.1 hx;cases hf:lkI N a b st with
 |some k=>simp
 |none=>have hl:=(Qs.1 hk).1;have:=at6.1 hf k (ata.2 hl);simp_all[lkP,absurd]
theorem PH{q:iJ}{x:bx}:∀(l:List Path)(e:Int),wk q x l e=0→e=0∨∃p∈l,(wkB x p&&(p.free|| !q.free))=true
 |[],e,h=>.inl h
 |p::r,e,h=>by
  rw[PI]at h;split at h
  ·rename_i h1;split at h
   ·simp_all
   ·rcases PH r 29 h with h3|⟨y,h3,h4⟩
    ·cases h3
    ·exact .inr ⟨y,atE _ h3,h4⟩
  ·rcases PH r e h with h3|⟨y,h3,h4⟩
   ·exact .inl h3
   ·exact .inr ⟨y,atE _ h3,h4⟩
variable{q:iJ}
theorem RU{x:bx}(h:wk q x N.paths 18=0):∃k p,ptI N q x=some k∧N.paths[k]?=some p∧p.fq=IntKind.i64.wrap (x.arr-x.dep):=by
 rcases PH _ _ h with h|⟨p,hp,hb⟩
 ·omega
 ·obtain⟨k,hk⟩:=ast.1 hp;cases hf:ptI N q x with
  |none=>have hl:=(Qs.1 hk).1;have:=at6.1 hf k (ata.2 hl);simp_all[ptP,absurd]
  |some j=>
   have:=List.find?_some hf;unfold ptP at this;split at this
   ·rename_i y hy;refine⟨j,y,rfl,hy,?_⟩;simp_all[wkB,ao9,cT]
   ·cases this
def LP(T:az)(N:an)(q:iJ)(l:List bx)(o:List PV):PV:=.rp [.rs 4 (T.stops.map Stop.pv),.rs 3 (T.aj.map ax.pv),.rs 10 (T.dm.map mJ.pv),.rs 3 (T.jJ.map pE.pv),.rs 5 (T.ae.map br.pv),.rs 4 (T.bU.map bl.pv),.rs 2 (T.uZ.map iG.pv),.rs 3 (T.lN.map gC.pv),.rs 4 (T.paths.map Path.pv),.rs 6 (T.aK.map aM.pv),.int .i64 T.bn,.int .i64 T.within,.int .i64 T.cap,.rs 4 (N.stops.map Stop.pv),.rs 3 (N.aj.map ax.pv),.rs 8 (N.runs.map cy.pv),.rs 5 (N.aH.map bq.pv),.rs 4 (N.paths.map Path.pv),.rs 6 (N.aK.map aM.pv),.int .i64 N.bn,.int .i64 N.within,.int .i64 N.cap,.int .i64 q.src,.int .i64 q.dst,.int .i64 q.time,.bool q.back,.int .i64 q.b9,.int .i64 q.walk,.bool q.free,.bool q.rG,.int .i64 q.bP,.bool q.HQ,.rs 9 (l.map bx.pv),.rs 5 o]
theorem lk0(x:bq):Ab.asInt .i64 (cell x.pv 0)=some x.a:=rfl
theorem lk1(x:bq):Ab.asInt .i64 (cell x.pv 1)=some x.ac:=rfl
theorem lk2(x:bq):Ab.asInt .i64 (cell x.pv 2)=some x.b:=rfl
theorem lk3(x:bq):Ab.asInt .i64 (cell x.pv 3)=some x.bc:=rfl
theorem lk4(x:bq):Ab.asBool (cell x.pv 4)=some x.stay:=rfl
theorem pt0(x:Path):Ab.asInt .i64 (cell x.pv 0)=some x.a:=rfl
theorem pt1(x:Path):Ab.asInt .i64 (cell x.pv 1)=some x.b:=rfl
theorem pt2(x:Path):Ab.asInt .i64 (cell x.pv 2)=some x.fq:=rfl
theorem pt3(x:Path):Ab.asBool (cell x.pv 3)=some x.free:=rfl
theorem aap{T:az}{l:List bx}{o:List PV}(hN:N.aH.length≤maxLen)(a b:bx)(st:Bool):gM [LP T N q l o,a.pv,b.pv,.bool st]=match lkI N a b st with|some k=>some (.int .i64 (k:Int))|none=>some (.int .i64 0):=by
 have hm:=ai;have hr:=aw;have e:gM [LP T N q l o,a.pv,b.pv,.bool st]=ba.run fZ (st,N.aH.map bq.pv,((N.aH.map bq.pv).length:Int),0,a.cr,a.run,a.ca,a.bC,a.src,a.dst,a.dep,a.arr,a.stay,b.cr,b.run,b.ca,b.bC,b.src,b.dst,b.dep,b.arr,b.stay,()):=rfl;rw[e];refine(aC (fun k=>(st,N.aH.map bq.pv,((N.aH.map bq.pv).length:Int),(k:Int),a.cr,a.run,a.ca,a.bC,a.src,a.dst,a.dep,a.arr,a.stay,b.cr,b.run,b.ca,b.bC,b.src,b.dst,b.dep,b.arr,b.stay,())) N.aH.length (fun k=>if lkP N a b st k=true then some (some (.int .i64 (k:Int)))else none) (fin:=some (.int .i64 0)) (fun k hk rec=>?_) (fun rec=>?_) (by omega) rfl).trans (Ha _ _ _)
 ·unfold fZ;dsimp only;rw[IN (by simp;omega),bp bq.pv N.aH k hk];simp only[U,lk0,lk1,lk2,lk3,lk4,aJ,ab (show k<9223372036854775807 by omega)];unfold lkP lkB;rw[cN hk];simp only;generalize N.aH[k]=y;rw[ag0];exact FT _ _ _
 simp[fZ,IT]
theorem link_ref(hN:N.aH.length≤maxLen)(a b:bx)(st:Bool):va [N.pv,a.pv,b.pv,.bool st]=match lkI N a b st with|some k=>some (.int .i64 (k:Int))|none=>some (.int .i64 (-1)):=by
 have hm:=ai;have hr:=aw;have e:va [N.pv,a.pv,b.pv,.bool st]=ba.run sH (st,0,N.stops.map Stop.pv,N.aj.map ax.pv,N.runs.map cy.pv,N.aH.map bq.pv,N.paths.map Path.pv,N.aK.map aM.pv,N.bn,N.within,N.cap,a.cr,a.run,a.ca,a.bC,a.src,a.dst,a.dep,a.arr,a.stay,b.cr,b.run,b.ca,b.bC,b.src,b.dst,b.dep,b.arr,b.stay,()):=rfl;rw[e];refine(aC (fun k=>(st,(k:Int),N.stops.map Stop.pv,N.aj.map ax.pv,N.runs.map cy.pv,N.aH.map bq.pv,N.paths.map Path.pv,N.aK.map aM.pv,N.bn,N.within,N.cap,a.cr,a.run,a.ca,a.bC,a.src,a.dst,a.dep,a.arr,a.stay,b.cr,b.run,b.ca,b.bC,b.src,b.dst,b.dep,b.arr,b.stay,())) N.aH.length (fun k=>if lkP N a b st k=true then some (some (.int .i64 (k:Int)))else none) (fin:=some (.int .i64 (-1))) (fun k hk rec=>?_) (fun rec=>?_) (by omega) rfl).trans (Ha _ _ _)
 ·unfold sH;dsimp only;rw[IN (by simp;omega),bp bq.pv N.aH k hk];simp only[U,lk0,lk1,lk2,lk3,lk4,aJ,ab (show k<9223372036854775807 by omega)];unfold lkP lkB;rw[cN hk];simp only;generalize N.aH[k]=y;exact FT _ _ _
 simp[sH,IT]
theorem ac2{T:az}{l:List bx}{o:List PV}(hN:N.paths.length≤maxLen)(x:bx):gN [LP T N q l o,x.pv]=match ptI N q x with|some k=>some (.int .i64 (k:Int))|none=>some (.int .i64 0):=by
 have hm:=ai;have hr:=aw;have hw:∃cs,LP T N q l o=.rp cs∧gN [.rp cs,x.pv]=ba.run ga (.agg cs,N.paths.map Path.pv,((N.paths.map Path.pv).length:Int),0,x.cr,x.run,x.ca,x.bC,x.src,x.dst,x.dep,x.arr,x.stay,())∧Ab.asBool (cell (.agg cs) 28)=some q.free∧PV.agg [cell (.agg cs) 0,cell (.agg cs) 1,cell (.agg cs) 2,cell (.agg cs) 3,cell (.agg cs) 4,cell (.agg cs) 5,cell (.agg cs) 6,cell (.agg cs) 7,cell (.agg cs) 8,cell (.agg cs) 9,cell (.agg cs) 10,cell (.agg cs) 11,cell (.agg cs) 12,cell (.agg cs) 13,cell (.agg cs) 14,cell (.agg cs) 15,cell (.agg cs) 16,cell (.agg cs) 17,cell (.agg cs) 18,cell (.agg cs) 19,cell (.agg cs) 20,cell (.agg cs) 21,cell (.agg cs) 22,cell (.agg cs) 23,cell (.agg cs) 24,cell (.agg cs) 25,cell (.agg cs) 26,cell (.agg cs) 27,cell (.agg cs) 28,cell (.agg cs) 29,cell (.agg cs) 30,cell (.agg cs) 31,cell (.agg cs) 32,cell (.agg cs) 33]=.agg cs:=⟨_,rfl,rfl,rfl,rfl⟩;obtain⟨cs,h1,h2,h3,h4⟩:=hw;rw[h1,h2];refine(aC (fun k=>(PV.agg cs,N.paths.map Path.pv,((N.paths.map Path.pv).length:Int),(k:Int),x.cr,x.run,x.ca,x.bC,x.src,x.dst,x.dep,x.arr,x.stay,())) N.paths.length (fun k=>if ptP N q x k=true then some (some (.int .i64 (k:Int)))else none) (fin:=some (.int .i64 0)) (fun k hk rec=>?_) (fun rec=>?_) (by omega) rfl).trans (Ha _ _ _)
 ·unfold ga;dsimp only;rw[IN (by simp;omega),bp Path.pv N.paths k hk];simp only[U,pt0,pt1,pt2,pt3,h3,h4,aJ,ay,ab (show k<9223372036854775807 by omega),bX];unfold ptP wkB;rw[cN hk];simp only;generalize N.paths[k]=y;exact FT _ _ _
 simp[ga,IT]
theorem ag1(hN:N.paths.length≤maxLen)(x:bx):vb [N.pv,q.pv,x.pv]=match ptI N q x with|some k=>some (.int .i64 (k:Int))|none=>some (.int .i64 (-1)):=by
 have hm:=ai;have hr:=aw;have e:vb [N.pv,q.pv,x.pv]=ba.run sI (0,N.stops.map Stop.pv,N.aj.map ax.pv,N.runs.map cy.pv,N.aH.map bq.pv,N.paths.map Path.pv,N.aK.map aM.pv,N.bn,N.within,N.cap,q.src,q.dst,q.time,q.back,q.b9,q.walk,q.free,q.rG,q.bP,q.HQ,x.cr,x.run,x.ca,x.bC,x.src,x.dst,x.dep,x.arr,x.stay,()):=rfl;rw[e];refine(aC (fun k=>((k:Int),N.stops.map Stop.pv,N.aj.map ax.pv,N.runs.map cy.pv,N.aH.map bq.pv,N.paths.map Path.pv,N.aK.map aM.pv,N.bn,N.within,N.cap,q.src,q.dst,q.time,q.back,q.b9,q.walk,q.free,q.rG,q.bP,q.HQ,x.cr,x.run,x.ca,x.bC,x.src,x.dst,x.dep,x.arr,x.stay,())) N.paths.length (fun k=>if ptP N q x k=true then some (some (.int .i64 (k:Int)))else none) (fin:=some (.int .i64 (-1))) (fun k hk rec=>?_) (fun rec=>?_) (by omega) rfl).trans (Ha _ _ _)
 ·unfold sI;dsimp only;rw[IN (by simp;omega),bp Path.pv N.paths k hk];simp only[U,pt0,pt1,pt2,pt3,aJ,ay,ab (show k<9223372036854775807 by omega),bX];unfold ptP wkB;rw[cN hk];simp only;generalize N.paths[k]=y;exact FT _ _ _
 simp[sI,IT]
def Jw(L:List aY)(r:cy)(b:Int):Int:=match L[b.toNat]?,r.calls[b.toNat]? with
 |some k,some c=>if k.stop=c.stop then IntKind.i64.wrap (c.dep-IntKind.i64.wrap (IntKind.i64.wrap (r.day*86400)+k.dep))else 0
 |_,_=>0
theorem am3(x:cy):ao 5 (cell x.pv 7)=some (x.calls.map aY.pv):=rfl
theorem aio(x:cy):Ab.asInt .i64 (cell x.pv 1)=some x.day:=rfl
variable{c:aY}
theorem PJ(L:List aY)(r:cy){b:Int}(hb:0≤b)(hc:r.calls[b.toNat]?=some c):((bif decide (b≥((L.map aY.pv).length:Int))then some true else(dA (L.map aY.pv) b).bind fun p14=>(Ab.asInt .i64 (cell p14 0)).bind fun n15=>(dA (r.calls.map aY.pv) b).bind fun p16=>(Ab.asInt .i64 (cell p16 0)).bind fun n17=>some (n15 !=n17)).bind fun r18=>if r18=true then some (PV.int .i64 0)else(dA (r.calls.map aY.pv) b).bind fun p19=>(Ab.asInt .i64 (cell p19 2)).bind fun n20=>(dA (L.map aY.pv) b).bind fun p21=>(Ab.asInt .i64 (cell p21 2)).bind fun n22=>some (PV.int .i64 (IntKind.i64.wrap (n20-IntKind.i64.wrap (IntKind.i64.wrap (r.day*86400)+n22)))))=some (PV.int .i64 (Jw L r b)):=by
 unfold Jw;rw[hc,aV aY.pv hb hc,AI];by_cases h:b≥(L.length:Int)
 ·simp_all
 ·have hl:b.toNat<L.length:=by omega
  rw[aV aY.pv hb (cN hl),cN hl,atq h];simp only[cond_false,U,LQ,UH];grind
theorem aaq(a s:Int)(cs:PV)(L:List aY)(Ui:ao 5 cs=some (L.map aY.pv))(r:cy){b:Int}(hb:0≤b)(hc:r.calls[b.toNat]?=some c):gO [.agg [.int .i64 a,.int .i64 s,cs],r.pv,.int .i64 b]=some (.int .i64 (Jw L r b)):=by have e1:Ab.asAgg 3 (.agg [.int .i64 a,.int .i64 s,cs])=some ():=rfl;have e2:cell (.agg [.int .i64 a,.int .i64 s,cs]) 0=.int .i64 a:=rfl;have e3:cell (.agg [.int .i64 a,.int .i64 s,cs]) 1=.int .i64 s:=rfl;have e4:cell (.agg [.int .i64 a,.int .i64 s,cs]) 2=cs:=rfl;simp only[gO,nE,e1,e2,e3,e4,Ui,agY,pB,Uz,UA,UB,JX,UC,UD,CZ,aS,aI,aB,agX,U];exact PJ L r hb hc
theorem ac3(T:az)(uM:T.Ok)(hT:Io T)(r:cy){v:Int}(hv:fO T r=some v){b:Int}(hb:0≤b)(hc:r.calls[b.toNat]?=some c):vc [T.pv,r.pv,.int .i64 b]=some (.int .i64 (Jw (rW T r v) r b)):=by
 obtain⟨s,hs,hsv⟩:=Ip T uM hT r;have hs':=hsv v hv;subst hs';rw[hv]at hs;have t2:∀a b:PV,cg 2 (.aG [a,b])=some [a,b]:=fun a b=>rfl;simp only[vc,FU,ttA,tt0,tt1,tt2,tt3,tt4,tt5,tt6,tt7,tt8,tt9,LK,LL,LM,agY,pB,Uz,UA,UB,JX,UC,UD,CZ,aS,aI,aB,agX,U,ttE];rw[show PV.agg [.int .i64 r.bD,.int .i64 r.day,.int .i64 r.inst,.str r.id,.int .i64 r.dF,.bool r.free,.bool r.aar,.rs 5 (r.calls.map aY.pv)]=r.pv from rfl,hs];simp only[U,t2,abm,ahH,aI,aB,at7,aiI,cond_false,cT];by_cases h1:r.bD<0
 ·rw[IN h1];unfold rW;rw[IN h1];rfl
 ·rw[IT h1];unfold fO at hv;rw[IT (by omega),IT h1]at hv;split at hv
  ·cases hv
  ·rename_i x hx;have RQ:dA (T.ae.map br.pv) r.bD=some x.pv:=aV br.pv (by omega) hx;have e4:ao 5 (cell x.pv 4)=some (x.calls.map aY.pv):=rfl;have e5:PV.agg [cell x.pv 0,cell x.pv 1,cell x.pv 2,cell x.pv 3,cell x.pv 4]=x.pv:=rfl;have ajj:x.Ok:=uM.ae.2 x (asb hx);have Z6:x.calls.length≤40:=hT.small x (asb hx);have hC:rW T r s=if s≥0 then uY x.calls s else x.calls:=by unfold rW;rw[IT h1,hx]
   rw[RQ,hC];simp only[U,e4,e5];by_cases h2:s≥0
   ·have hrg:0≤s∧s≤172800:=by grind [instI_range,List.mem_of_getElem?]
    rw[IN h2,IN h2,aas x ajj s hrg Z6];simp only[U,t2,abm,ahH,aS,aI];exact PJ _ r hb hc
   ·rw[IT h2,IT h2];exact PJ _ r hb hc
def nxS(l:List bx)(i:Nat):Bool:=match l[i+1]? with|some y=>y.stay|none=>false
def JY(l:List bx)(i:Nat)(x:bx):List Fact:=if nxS l i=true then[]else[⟨4,i,x.dst,x.bC,0⟩]
def boF(i:Nat)(x:bx):List Fact:=if x.stay=true then[]else[⟨3,i,x.src,x.ca,0⟩]
def ag2(o:Option Nat):Int:=match o with|some k=>k|none=>0
def joF(N:an)(l:List bx)(x:bx):Nat→List Fact
 |0=>[]
 |j+1=>match l[j]? with
  |none=>[]
  |some a=>if a.cr=true then(if x.stay=true then[⟨6,((j+1:Nat):Int),ag2 (lkI N a x true),1,IntKind.i64.wrap (x.dep-a.arr)⟩]else if IntKind.i64.wrap (x.dep-a.arr)≥Hb N x.src then[⟨5,((j+1:Nat):Int),x.src,IntKind.i64.wrap (x.dep-a.arr),Hb N x.src⟩]else[⟨6,((j+1:Nat):Int),ag2 (lkI N a x false),0,IntKind.i64.wrap (x.dep-a.arr)⟩])else[]
def PK(T:az)(r:cy):Int:=if r.bD≥0 then(match T.ae[r.bD.toNat]? with|some x=>Bb T.dm T.jJ x.wB r.day|none=>0)else 0
def LR(T:az)(N:an)(l:List bx)(i:Nat)(x:bx)(r:cy)(s:Int):List Fact:=[⟨1,i,PK T r,s,r.bD⟩,⟨2,i,x.dep,x.arr,Jw (rW T r s) r x.ca⟩]++(joF N l x i++(boF i x++JY l i x))
def LS(N:an)(q:iJ)(i:Nat)(x:bx):List Fact:=match ptI N q x with
 |some k=>(match N.paths[k]? with|some p=>[⟨7,i,k,p.fq,if p.free=true then 1 else 0⟩]|none=>[])
 |none=>[]
def gU(T:az)(N:an)(x:bx):Bool:=x.cr&&(match tW N x with|some r=>(fO T r).isNone|none=>true)
def Iq(T:az)(N:an)(q:iJ)(l:List bx)(i:Nat)(x:bx):List Fact:=if x.cr=true then(match tW N x with|some r=>(match fO T r with|some s=>LR T N l i x r s|none=>[])|none=>[])else LS N q i x
def lgF(T:az)(N:an)(q:iJ)(l:List bx)(i:Nat):List Fact:=match l[i]? with|none=>[]|some x=>Iq T N q l i x
theorem WH(N:an)(l:List bx)(x:bx):∀i,(joF N l x i).length≤1
 |0=>by simp[joF]
 |j+1=>by grind [joF]
theorem ac4(l:List bx)(i:Nat)(x:bx):(JY l i x).length≤1:=by unfold JY;grind
theorem ag4(i:Nat)(x:bx):(boF i x).length≤1:=by unfold boF;grind
theorem WI(T:az)(N:an)(q:iJ)(l:List bx)(i:Nat):(lgF T N q l i).length≤5:=by
 unfold lgF;split
 ·simp
 ·rename_i x hx;unfold Iq;split
  ·split
   ·split
    ·rename_i r s _ _;have h1:=WH N l x i;grind [ac4,ag4,LR,List.length_append,List.length_cons,List.length_nil]
    simp
   simp
  grind [LS]
structure QE(N:an)(q:iJ)(l:List bx):Prop where
 val:vN N
 Hc:As N l
 place:∀k,k<l.length→eU N q l k=0
 few:l.length≤12
section
variable {T:az} {N:an} {q:iJ} {l:List bx}
variable{k:Nat}
theorem QE.split(h:QE N q l)(hk:k<l.length):oM N q l[k]=0∧(if k=0 then Bc N q l l[k]else match l[k-1]? with|some a=>if wF N a l[k]=0 then vd N a l[k]else wF N a l[k]|none=>0)=0:=by have hp:=h.place k hk;unfold eU at hp;grind
theorem QE.walk(h:QE N q l)(hk:k<l.length)(hr:l[k].cr=false):wk q l[k] N.paths 18=0:=by have hl:=(h.split hk).1;unfold oM at hl;grind
theorem QE.join(h:QE N q l)(hk:k+1<l.length):wF N l[k] l[k+1]=0∧vd N l[k] l[k+1]=0:=by have:=(h.split hk).2;grind
theorem WJ{x:bx}(h:Nr x=false):0≤x.dep∧x.dep≤3155932800∧0≤x.arr∧x.arr≤3155932800:=by simp_all[Nr,FV,asE,as0,ao9,cT]
theorem QE.aH(h:QE N q l)(hk:k+1<l.length)(ha:l[k].cr=true)(hb:l[k+1].cr=true):(l[k+1].stay=true→Fe N l[k] l[k+1] true=true)∧(l[k+1].stay=false→¬IntKind.i64.wrap (l[k+1].dep-l[k].arr)≥Hb N l[k+1].src→Fe N l[k] l[k+1] false=true):=by
 obtain⟨h1,h2⟩:=h.join hk;refine⟨fun hs=>?_,fun hs hc=>?_⟩
 ·unfold wF at h1;grind
 ·obtain⟨⟨s,hs1,Jx,Z6⟩,_⟩:=lh (h.Hc.WK (k+1) hk);have uJ:=h.val.stop s Z6;have hch:=FW hs1;have m1:=WJ (h.Hc.mom (k+1) hk);have m2:=WJ (h.Hc.mom k (by omega));unfold vd at h2;rw[hb,hs,ha]at h2;rw[IT (by simp),IT (by simp)]at h2;split at h2
  ·rename_i hh;simp only[asu,ao9,cT]at hh;grind [aZ]
  omega
theorem ve{o:List PV}(h:o.length≤100000)(f:PV)(k:List PV→Option PV):JZ o f k=k (o++[f]):=by unfold JZ;rw[IN (by grind [List.length_append,List.length_singleton,ah])]
theorem WL(l:List bx)(i:Nat)(hi:i<l.length)(hl:l.length≤12)(f:Bool→Option PV):((bif IntKind.i64.wrap ((i:Int)+1)==((l.map bx.pv).length:Int)then some true else(dA (l.map bx.pv) (IntKind.i64.wrap ((i:Int)+1))).bind fun q=>(Ab.asBool (cell q 8)).bind fun b=>some !b).bind f)=f (!nxS l i):=by
 unfold nxS;rw[ab (by omega),AI];by_cases e:i+1=l.length
 ·simp_all
 ·rw[show(((i+1:Nat):Int)==(l.length:Int))=false by grind,bp bx.pv l (i+1) (by omega),cN (show i+1<l.length by omega)];rfl
theorem ac5(i:Nat)(hi:i<l.length)(hl:l.length≤12)(x:bx)(k:List PV→Option PV)(o:List PV)(ho:o.length≤10000):Kg (l.map bx.pv) (i:Int) x.pv k o=k (o++(JY l i x).map Fact.pv):=by
 unfold Kg;rw[WL l i hi hl];unfold JY;cases nxS l i with
 |true=>simp
 |false=>rw[IN (by rfl),IT (by simp)];simp only[mi,mj,U,ve (show o.length≤100000 by omega)];rfl
theorem ajk(i:Nat)(hi:i<l.length)(hl:l.length≤12)(x:bx)(k:List PV→Option PV)(o:List PV)(ho:o.length≤1000):UI (l.map bx.pv) (i:Int) x.pv k o=k (o++(boF i x++JY l i x).map Fact.pv):=by
 unfold UI boF;simp only[iW,U];cases x.stay with
 |true=>rw[IT (by simp),IN rfl,ac5 i hi hl x k o (by omega)];rfl
 |false=>rw[IN (by rfl),IT (by simp)];simp only[kQ,kR,U,ve (show o.length≤100000 by omega)];rw[ac5 i hi hl x k _ (by simp;omega),asM,←asy];rfl
theorem ac6{a b:bx}{st:Bool}{o:List PV}(hN:N.aH.length≤maxLen)(h:Fe N a b st=true)(k:Int→Option PV):WM (LP T N q l o) a.pv b.pv st k=k (ag2 (lkI N a b st)):=by obtain⟨j,hj⟩:=RT h;have:=aap (T:=T) (N:=N) (q:=q) (l:=l) (o:=o) hN a b st;unfold WM;rw[show fA9 a.pv=a.pv from rfl,show fA9 b.pv=b.pv from rfl,this,hj];rfl
theorem ajl(h:QE N q l)(i:Nat)(hi:i<l.length)(hr:l[i].cr=true)(k:List PV→Option PV)(o:List PV)(ho:o.length≤1000):WN (N.stops.map Stop.pv) (l.map bx.pv) (i:Int) (LP T N q l) k o=k (o++(joF N l l[i] i).map Fact.pv):=by
 have hf:=h.few;have hl:=h.val.ok.aH.1;cases i with
 |zero=>unfold WN joF;simp
 |succ j=>
  obtain⟨⟨s,hs1,Jx,Z6⟩,_⟩:=lh (h.Hc.WK (j+1) hi);have hch:=FW hs1;unfold WN;rw[joF,show(((j+1:Nat):Int)==0)=false by rfl,hZ j (by omega),bp bx.pv l j (by omega),bp bx.pv l (j+1) hi,cN (show j<l.length by omega)];simp only[cond_false,U,jK];by_cases ha:l[j].cr=true
  ·obtain⟨l1,l2⟩:=h.aH hi ha hr;rw[IT (by simp[ha]),IN ha];simp only[kj,kn,kQ,iW,U,aV Stop.pv Jx hs1,Ir,←hch];by_cases hs:l[j+1].stay=true
   ·rw[IN hs,IN hs,ac6 hl (l1 hs),ve (by omega)];rfl
   ·rw[IT hs,IT hs];by_cases hc:IntKind.i64.wrap (l[j+1].dep-l[j].arr)≥Hb N l[j+1].src
    ·rw[IN (by simpa using hc),IN hc,ve (by omega)];rfl
    ·rw[IT (by simpa using hc),IT hc,ac6 hl (l2 (by simpa using hs) hc),ve (by omega)];rfl
  simp_all
theorem ac7(uM:T.Ok)(hT:Io T)(h:QE N q l)(i:Nat)(hi:i<l.length)(hr:l[i].cr=true){r:cy}(hrn:tW N l[i]=some r){s:Int}(hs:fO T r=some s)(cs:PV)(Ui:ao 5 cs=some ((rW T r s).map aY.pv))(k:List PV→Option PV)(o:List PV)(ho:o.length≤500):WO (T.dm.map mJ.pv) (T.jJ.map pE.pv) (T.ae.map br.pv) (N.stops.map Stop.pv) (N.runs.map cy.pv) (l.map bx.pv) (i:Int) (LP T N q l) (.agg [.int .i64 r.bD,.int .i64 s,cs]) k o=k (o++(LR T N l i l[i] r s).map Fact.pv):=by
 have hf:=h.few;have hmx:maxLen=9223372036854775807:=rfl;have hc:=hT.dm;have hx:=hT.jJ;obtain⟨r',t,a,b,hR⟩:=wG h.val ((lh (h.Hc.WK i hi)).2.2.1 hr);have Qz:r'=r:=by have:=hR.run;unfold tW at hrn;simp_all
 subst Qz;have e0:Ab.asInt .i64 (cell (PV.agg [.int .i64 r'.bD,.int .i64 s,cs]) 0)=some r'.bD:=rfl;have e1:Ab.asInt .i64 (cell (PV.agg [.int .i64 r'.bD,.int .i64 s,cs]) 1)=some s:=rfl;have serve:∀c,PL (N.stops.map Stop.pv) (l.map bx.pv) (i:Int) (LP T N q l) l[i].pv r'.pv (.agg [.int .i64 r'.bD,.int .i64 s,cs]) k o c=k (o++([(⟨1,i,c,s,r'.bD⟩:Fact),⟨2,i,l[i].dep,l[i].arr,Jw (rW T r' s) r' l[i].ca⟩]++(joF N l l[i] i++(boF i l[i]++JY l i l[i]))).map Fact.pv):=by intro c;unfold PL;rw[show PV.agg [cell (PV.agg [.int .i64 r'.bD,.int .i64 s,cs]) 0,cell (PV.agg [.int .i64 r'.bD,.int .i64 s,cs]) 1,cell (PV.agg [.int .i64 r'.bD,.int .i64 s,cs]) 2]=.agg [.int .i64 r'.bD,.int .i64 s,cs]from rfl,show fA8 r'.pv=r'.pv from rfl];simp only[e0,e1,U,ve (show o.length≤100000 by omega),kj,kn,kR,aaq r'.bD s cs _ Ui r' hR.Is hR.ca,aI];rw[ve (by simp;omega),ajl h i hi hr _ _ (by simp;omega),ajk i hi hf _ _ _ (by grind [WH])];congr 1;simp only[asM,asy];rfl
 unfold WO;rw[bp bx.pv l i hi];simp only[U,kS,aV cy.pv hR.pB hR.run,e0];unfold LR PK;by_cases h0:r'.bD≥0
 ·rw[IN (by simpa using h0),IN h0];have hx:∃x,T.ae[r'.bD.toNat]?=some x:=by
   cases hh:T.ae[r'.bD.toNat]? with
   |some x=>simp
   |none=>unfold fO at hs;grind
  obtain⟨x,hx⟩:=hx;have e2:Ab.asInt .i64 (cell x.pv 2)=some x.wB:=rfl;rw[hx,aV br.pv h0 hx];grind [U,aio,Jy,aI,serve]
 grind
theorem ac8(h:QE N q l)(i:Nat)(hi:i<l.length)(hr:l[i].cr=false)(o':List PV)(k:List PV→Option PV)(o:List PV)(ho:o.length≤500):ac9 (l.map bx.pv) (N.paths.map Path.pv) (i:Int) (LP T N q l o') k o=k (o++(LS N q i l[i]).map Fact.pv):=by
 have hN:N.paths.length≤maxLen:=by have:=h.val.ok.paths.1;omega
 obtain⟨j,p,h1,h2,h3⟩:=RU (h.walk hi hr);have hp:=ac2 (T:=T) (q:=q) (l:=l) (o:=o') hN l[i];rw[h1]at hp;unfold ac9;rw[bp bx.pv l i hi];have RQ:dA (N.paths.map Path.pv) (j:Int)=some p.pv:=aV Path.pv (by omega) (by simp_all);simp only[U,show fA9 l[i].pv=l[i].pv from rfl,hp,aI,RQ,pt2,pt3];unfold LS;simp only[h1,h2];cases p.free<;>(simp only[cQ,BY,IS];rw[ve (by omega)];rfl)
end
set_option maxHeartbeats 4000000
def fSt(T:az)(N:an)(q:iJ)(l:List bx)(iY:List PV)(k:Nat)(b o:List PV):ajm:=(iY,l.map bx.pv,((l.map bx.pv).length:Int),(k:Int),T.stops.map Stop.pv,T.aj.map ax.pv,T.dm.map mJ.pv,T.jJ.map pE.pv,T.ae.map br.pv,T.bU.map bl.pv,T.uZ.map iG.pv,T.lN.map gC.pv,T.paths.map Path.pv,T.aK.map aM.pv,T.bn,T.within,T.cap,.rm 9 (wC T) (wE T),N.stops.map Stop.pv,N.aj.map ax.pv,N.runs.map cy.pv,N.aH.map bq.pv,N.paths.map Path.pv,N.aK.map aM.pv,N.bn,N.within,N.cap,T.stops.map Stop.pv,T.aj.map ax.pv,T.dm.map mJ.pv,T.jJ.map pE.pv,T.ae.map br.pv,T.bU.map bl.pv,T.uZ.map iG.pv,T.lN.map gC.pv,T.paths.map Path.pv,T.aK.map aM.pv,T.bn,T.within,T.cap,N.stops.map Stop.pv,N.aj.map ax.pv,N.runs.map cy.pv,N.aH.map bq.pv,N.paths.map Path.pv,N.aK.map aM.pv,N.bn,N.within,N.cap,q.src,q.dst,q.time,q.back,q.b9,q.walk,q.free,q.rG,q.bP,q.HQ,l.map bx.pv,b,o,())
def tSt(T:az)(N:an)(q:iJ)(l:List bx)(iY:List PV)(k:Nat)(b o:List PV):am4:=(iY,(iY.length:Int),(k:Int),T.stops.map Stop.pv,T.aj.map ax.pv,T.dm.map mJ.pv,T.jJ.map pE.pv,T.ae.map br.pv,T.bU.map bl.pv,T.uZ.map iG.pv,T.lN.map gC.pv,T.paths.map Path.pv,T.aK.map aM.pv,T.bn,T.within,T.cap,N.stops.map Stop.pv,N.aj.map ax.pv,N.runs.map cy.pv,N.aH.map bq.pv,N.paths.map Path.pv,N.aK.map aM.pv,N.bn,N.within,N.cap,q.src,q.dst,q.time,q.back,q.b9,q.walk,q.free,q.rG,q.bP,q.HQ,l.map bx.pv,b,o,())
def B2:PV:=.aG [.rs 5 [],.int .i64 16]
def ES(l:List bx)(k:Nat):List Nat:=(List.range k).filter fun i=>match l[i]? with|some x=>gV x|none=>false
theorem Au(l:List bx){k:Nat}(hk:k<l.length):ES l (k+1)=ES l k++if gV l[k]=true then[k]else[]:=by unfold ES;rw[atv,List.filter_append];grind
theorem WQ(l:List bx)(k:Nat):(ES l k).length≤k:=by have:=atS (fun i=>match l[i]? with|some x=>gV x|none=>false) (List.range k);rw[auS]at this;exact this
def zn(l:List bx)(k:Nat):List PV:=(ES l k).map fun(i:Nat)=> .int .i64 (i:Int)
section
variable {T:az} {N:an} {q:iJ} {l:List bx}
def C2(T:az)(N:an)(q:iJ)(l:List bx)(k:Nat):List Fact:=(List.range k).flatMap (lgF T N q l)
theorem It(k:Nat):C2 T N q l (k+1)=C2 T N q l k++lgF T N q l k:=by simp[C2,atv,aut]
theorem Av:∀k,(C2 T N q l k).length≤5*k
 |0=>by simp[C2]
 |k+1=>by rw[It,asi];have h1:=Av k;have h2:=WI T N q l k;omega
theorem ada(uM:T.Ok)(hT:Io T)(hV:zk T)(h:QE N q l)(iY:List PV)(k:Nat)(hk:k<l.length)(rec:ajm→Option PV):gp ba (fSt T N q l iY k (zn l k) ((C2 T N q l k).map Fact.pv)) rec=if gU T N l[k]=true then some B2 else rec (fSt T N q l iY (k+1) (zn l (k+1)) ((C2 T N q l (k+1)).map Fact.pv)):=by
 have hf:=h.few;have ho:=Av (T:=T) (N:=N) (q:=q) (l:=l) k;have hb:=WQ l k;have Uj:(zn l k).length≤k:=by simp_all[zn,AI]
 have TG:lgF T N q l k=Iq T N q l k l[k]:=by grind [lgF,List.getElem?_eq_getElem]
 rw[It,asM,TG];generalize hob:(C2 T N q l k).map Fact.pv=o;have hol:o.length≤60:=by grind
 unfold gp fSt;dsimp only;have hw:∀o,PV.rp [.rs 4 (T.stops.map Stop.pv),.rs 3 (T.aj.map ax.pv),.rs 10 (T.dm.map mJ.pv),.rs 3 (T.jJ.map pE.pv),.rs 5 (T.ae.map br.pv),.rs 4 (T.bU.map bl.pv),.rs 2 (T.uZ.map iG.pv),.rs 3 (T.lN.map gC.pv),.rs 4 (T.paths.map Path.pv),.rs 6 (T.aK.map aM.pv),.int .i64 T.bn,.int .i64 T.within,.int .i64 T.cap,.rs 4 (N.stops.map Stop.pv),.rs 3 (N.aj.map ax.pv),.rs 8 (N.runs.map cy.pv),.rs 5 (N.aH.map bq.pv),.rs 4 (N.paths.map Path.pv),.rs 6 (N.aK.map aM.pv),.int .i64 N.bn,.int .i64 N.within,.int .i64 N.cap,.int .i64 q.src,.int .i64 q.dst,.int .i64 q.time,.bool q.back,.int .i64 q.b9,.int .i64 q.walk,.bool q.free,.bool q.rG,.int .i64 q.bP,.bool q.HQ,.rs 9 (l.map bx.pv),.rs 5 o]=LP T N q l o:=fun o=>rfl;simp only[hw,ttE];rw[IN (by simp;omega),bp bx.pv l k hk];simp only[U,jK,iW,cY,BY];by_cases hr:l[k].cr=true
 ·have hex:=(lh (h.Hc.WK k hk)).2.2.1 hr;obtain⟨r,t,a,c,hR⟩:=wG h.val hex;have hrn:tW N l[k]=some r:=by unfold tW;rw[IN hR.pB];exact hR.run
  obtain⟨ja,js,cs,hj,hjv⟩:=UF T uM hT hV r;rw[IT (by simp[hr])];have key:∀b,ajn (N.runs.map cy.pv) T.pv (.rm 9 (wC T) (wE T)) l[k].pv (WO (T.dm.map mJ.pv) (T.jJ.map pE.pv) (T.ae.map br.pv) (N.stops.map Stop.pv) (N.runs.map cy.pv) (l.map bx.pv) (k:Int) fun o=>LP T N q l o) (fun o=>rec (iY,l.map bx.pv,((l.map bx.pv).length:Int),IntKind.i64.wrap ((k:Int)+1),T.stops.map Stop.pv,T.aj.map ax.pv,T.dm.map mJ.pv,T.jJ.map pE.pv,T.ae.map br.pv,T.bU.map bl.pv,T.uZ.map iG.pv,T.lN.map gC.pv,T.paths.map Path.pv,T.aK.map aM.pv,T.bn,T.within,T.cap,.rm 9 (wC T) (wE T),N.stops.map Stop.pv,N.aj.map ax.pv,N.runs.map cy.pv,N.aH.map bq.pv,N.paths.map Path.pv,N.aK.map aM.pv,N.bn,N.within,N.cap,T.stops.map Stop.pv,T.aj.map ax.pv,T.dm.map mJ.pv,T.jJ.map pE.pv,T.ae.map br.pv,T.bU.map bl.pv,T.uZ.map iG.pv,T.lN.map gC.pv,T.paths.map Path.pv,T.aK.map aM.pv,T.bn,T.within,T.cap,N.stops.map Stop.pv,N.aj.map ax.pv,N.runs.map cy.pv,N.aH.map bq.pv,N.paths.map Path.pv,N.aK.map aM.pv,N.bn,N.within,N.cap,q.src,q.dst,q.time,q.back,q.b9,q.walk,q.free,q.rG,q.bP,q.HQ,l.map bx.pv,b,o,())) o=if gU T N l[k]=true then some B2 else rec (fSt T N q l iY (k+1) b (o++(Iq T N q l k l[k]).map Fact.pv)):=by
   intro b;have t2:∀a b:PV,cg 2 (.aG [a,b])=some [a,b]:=fun a b=>rfl;have a3:Ab.asAgg 3 (.agg [.int .i64 ja,.int .i64 js,cs])=some ():=rfl;unfold ajn;simp only[kS,U,aV cy.pv hR.pB hR.run,show fA8 r.pv=r.pv from rfl,hj,t2,abm,ahH,a3,aB];have Wj:gU T N l[k]=(fO T r).isNone:=by unfold gU;rw[hr,hrn];rfl
   have hfc:∀v,fO T r=some v→Iq T N q l k l[k]=LR T N l k l[k] r v:=fun v hv=>by simp_all[Iq,IN]
   rw[Wj];cases hS:fO T r with
   |none=>rfl
   |some v=>obtain⟨e1,e2,e3⟩:=hjv v hS;rw[hfc v hS,e1,e2];simp only[at7,Option.isNone_some,aiI,cQ,BY,IS];have:=ac7 (T:=T) uM hT h k hk hr hrn hS cs e3 (fun o=>rec (iY,l.map bx.pv,((l.map bx.pv).length:Int),IntKind.i64.wrap ((k:Int)+1),T.stops.map Stop.pv,T.aj.map ax.pv,T.dm.map mJ.pv,T.jJ.map pE.pv,T.ae.map br.pv,T.bU.map bl.pv,T.uZ.map iG.pv,T.lN.map gC.pv,T.paths.map Path.pv,T.aK.map aM.pv,T.bn,T.within,T.cap,.rm 9 (wC T) (wE T),N.stops.map Stop.pv,N.aj.map ax.pv,N.runs.map cy.pv,N.aH.map bq.pv,N.paths.map Path.pv,N.aK.map aM.pv,N.bn,N.within,N.cap,T.stops.map Stop.pv,T.aj.map ax.pv,T.dm.map mJ.pv,T.jJ.map pE.pv,T.ae.map br.pv,T.bU.map bl.pv,T.uZ.map iG.pv,T.lN.map gC.pv,T.paths.map Path.pv,T.aK.map aM.pv,T.bn,T.within,T.cap,N.stops.map Stop.pv,N.aj.map ax.pv,N.runs.map cy.pv,N.aH.map bq.pv,N.paths.map Path.pv,N.aK.map aM.pv,N.bn,N.within,N.cap,q.src,q.dst,q.time,q.back,q.b9,q.walk,q.free,q.rG,q.bP,q.HQ,l.map bx.pv,b,o,())) o (by omega);refine this.trans ?_;rw[ab (by omega)];rfl
  by_cases hs:l[k].stay=true
  ·have hbk:zn l (k+1)=zn l k:=by simp_all[zn,Au,IT,gV]
   rw[IT (by simp[hs]),hbk];exact key _
  ·have hbk:zn l (k+1)=zn l k++[.int .i64 (k:Int)]:=by simp_all[zn,Au,IN,gV]
   rw[IN (by simpa using hs),hbk,IN (by grind [List.length_append,List.length_singleton,ah])];exact key _
 ·have Cv:l[k].cr=false:=by simpa using hr
  have Wj:gU T N l[k]=false:=by unfold gU;rw[Cv];rfl
  have hfc:Iq T N q l k l[k]=LS N q k l[k]:=by unfold Iq;rw[IT hr]
  have hbk:zn l (k+1)=zn l k:=by simp_all[zn,Au,IT,gV]
  rw[IN (by simp[Cv]),Wj,IT (by simp),hfc,hbk];have:=ac8 (T:=T) h k hk Cv o (fun o=>rec (iY,l.map bx.pv,((l.map bx.pv).length:Int),IntKind.i64.wrap ((k:Int)+1),T.stops.map Stop.pv,T.aj.map ax.pv,T.dm.map mJ.pv,T.jJ.map pE.pv,T.ae.map br.pv,T.bU.map bl.pv,T.uZ.map iG.pv,T.lN.map gC.pv,T.paths.map Path.pv,T.aK.map aM.pv,T.bn,T.within,T.cap,.rm 9 (wC T) (wE T),N.stops.map Stop.pv,N.aj.map ax.pv,N.runs.map cy.pv,N.aH.map bq.pv,N.paths.map Path.pv,N.aK.map aM.pv,N.bn,N.within,N.cap,T.stops.map Stop.pv,T.aj.map ax.pv,T.dm.map mJ.pv,T.jJ.map pE.pv,T.ae.map br.pv,T.bU.map bl.pv,T.uZ.map iG.pv,T.lN.map gC.pv,T.paths.map Path.pv,T.aK.map aM.pv,T.bn,T.within,T.cap,N.stops.map Stop.pv,N.aj.map ax.pv,N.runs.map cy.pv,N.aH.map bq.pv,N.paths.map Path.pv,N.aK.map aM.pv,N.bn,N.within,N.cap,q.src,q.dst,q.time,q.back,q.b9,q.walk,q.free,q.rG,q.bP,q.HQ,l.map bx.pv,zn l k,o,())) o (by omega);grind [ab]
def aat(l:List bx)(i:Int):Int:=match(ES l l.length)[i.toNat]? with|some k=>k|none=>0
def pT(l:List bx)(t:iZ):Fact:=⟨8,aat l t.fst,t.prod,t.jL,t.lst⟩
theorem aau(iY:List iZ)(ht:iY.length≤1000)(kM:∀t∈iY,0≤t.fst∧t.fst<((ES l l.length).length:Int))(o:List Fact)(ho:o.length≤1000):ba.run (mT ba) (tSt T N q l (iY.map iZ.pv) 0 (zn l l.length) (o.map Fact.pv))=some (.aG [.rs 5 ((o++iY.map (pT l)).map Fact.pv),.int .i64 0]):=by
 refine bf (fun k=>tSt T N q l (iY.map iZ.pv) k (zn l l.length) ((o++(iY.take k).map (pT l)).map Fact.pv)) iY.length (fun k hk rec=>?_) (fun rec=>?_) (by unfold rounds;omega) (by simp)
 ·have hm:=kM _ (ar9 hk);have cd:iY[k].fst.toNat<(ES l l.length).length:=by omega
  have RQ:(zn l l.length)[iY[k].fst.toNat]?=some (.int .i64 (aat l iY[k].fst)):=by unfold zn aat;grind
  have hra:al iY[k].fst (zn l l.length).length:=by unfold zn;rw[AI];exact⟨hm.1,hm.2⟩
  have t0:∀t:iZ,Ab.asInt .i64 (cell t.pv 0)=some t.prod:=fun t=>rfl;have t1:∀t:iZ,Ab.asInt .i64 (cell t.pv 1)=some t.fst:=fun t=>rfl;have t2:∀t:iZ,Ab.asInt .i64 (cell t.pv 2)=some t.lst:=fun t=>rfl;have t3:∀t:iZ,Ab.asInt .i64 (cell t.pv 3)=some t.jL:=fun t=>rfl;have hl2:((o++(iY.take k).map (pT l)).map Fact.pv).length≤100000:=by simp;omega
  rw[show(o++(iY.take (k+1)).map (pT l)).map Fact.pv=(o++(iY.take k).map (pT l)).map Fact.pv++[(pT l iY[k]).pv] by rw[asm hk];grind];generalize (o++(iY.take k).map (pT l)).map Fact.pv=oo at*;unfold mT tSt;dsimp only;rw[IN (by simp;omega),bp iZ.pv iY k hk];simp only[U,t0,t1,t2,t3,IN hra,RQ,RV,aI,ve hl2,ab (show k<9223372036854775807 by omega)];rfl
 simp[mT,tSt,IT,asJ]
theorem aav(uM:T.Ok)(hT:Io T)(hV:zk T)(h:QE N q l)(iY:List iZ)(ht:iY.length≤1000)(kM:∀t∈iY,0≤t.fst∧t.fst<((ES l l.length).length:Int)):ba.run (gp ba) (fSt T N q l (iY.map iZ.pv) 0 [] [])=if l.any (gU T N)=true then some B2 else some (.aG [.rs 5 ((C2 T N q l l.length++iY.map (pT l)).map Fact.pv),.int .i64 0]):=by
 have hf:=h.few;have hlen:=Av (T:=T) (N:=N) (q:=q) (l:=l) l.length;refine(aC (fun k=>fSt T N q l (iY.map iZ.pv) k (zn l k) ((C2 T N q l k).map Fact.pv)) l.length (fun k=>(l[k]?).bind fun x=>if gU T N x=true then some (some B2)else none) (fin:=some (.aG [.rs 5 ((C2 T N q l l.length++iY.map (pT l)).map Fact.pv),.int .i64 0])) (fun k hk rec=>?_) (fun rec=>?_) (by unfold rounds;omega) rfl).trans ?_
 ·simp_all[ada,cN,U,FT]
 ·rw[←aau (T:=T) (N:=N) (q:=q) iY ht kM _ (show(C2 T N q l l.length).length≤1000 by omega)];unfold gp fSt;dsimp only;rw[IT (by simp)];rfl
 ·have e:((List.range l.length).findSome? fun k=>(l[k]?).bind fun x=>if gU T N x=true then some (some B2)else none)=if l.any (gU T N)=true then some (some B2)else none:=by
   have:=Aw (gU T N) (fun _=>some B2) l;rw[this];cases hh:l.any (gU T N)with
   |true=>
    obtain⟨x,hx,hb⟩:=atd.1 hh;cases hfd:l.find? (gU T N)with
    |none=>simp_all
    |some y=>rfl
   |false=>simp_all
  rw[e];split<;>rfl
end
theorem LU{A:Type}[DecidableEq A]{a b:List A}(hl:a.length=b.length):(if(List.range a.length).any (fun k=> !decide (a[k]?=b[k]?))=true then some (PV.bool false)else some (PV.bool true))=some (PV.bool (decide (a=b))):=by
 by_cases h:a=b
 ·subst h;simp
 ·rw[IN]
  ·simp[h]
  ·rw[atd];refine as9 fun hn=>h (asw fun k=>?_);grind
theorem WR(x y:iZ):cz [cell x.pv 0,cell x.pv 1,cell x.pv 2,cell x.pv 3] [cell y.pv 0,cell y.pv 1,cell y.pv 2,cell y.pv 3]=decide (x=y):=by obtain⟨a1,a2,a3,a4⟩:=x;obtain⟨b1,b2,b3,b4⟩:=y;simp[cell,iZ.pv,PV.cells,cz,Ab.peq];rfl
theorem WS(x:iZ):mI (Kd.int .i64::[].append (Kd.int .i64::[].append (Kd.int .i64::[].append (Kd.int .i64::[].append [])))) [cell x.pv 0,cell x.pv 1,cell x.pv 2,cell x.pv 3]=true:=rfl
theorem aaw(a b:List iZ)(ha:a.length≤maxLen):gP [.rs 4 (a.map iZ.pv),.rs 4 (b.map iZ.pv)]=some (.bool (decide (a=b))):=by
 have hm:=ai;have hr:=aw;simp only[gP,nF,aS,U,AI,eC];by_cases hl:a.length=b.length
 ·rw[IT (by simp[hl])];refine(dt (fun k=>(a.map iZ.pv,b.map iZ.pv,(a.length:Int),(k:Int),())) a.length (fun k=> !decide (a[k]?=b[k]?)) (no:=some (.bool false)) (fin:=some (.bool true)) (fun k hk rec=>?_) (fun rec=>?_) (by omega) rfl).trans (LU hl)
  ·unfold ko;dsimp only;rw[IN (by simp;omega),bp iZ.pv a k hk,bp iZ.pv b k (by omega),ab (by omega)];simp only[U,WS,WR,auU,BY,cN hk,cN (show k<b.length by omega),cO]
  simp[ko,IT]
 ·rw[IN (by simp;omega)];congr 2;grind
def ET(T:az):Int:=match bK ((List.range 10).findSome? (sJ T)) (some (tX 0 0 0))with
 |some (.aG [_,_,.int _ e])=>e
 |_=>0
theorem Ow(T:az):∃p i,bK ((List.range 10).findSome? (sJ T)) (some (tX 0 0 0))=some (tX p i (ET T))∧(ET T=0→zk T):=by
 obtain⟨p,i,e,hw,hv⟩:=RW T;have he:ET T=e:=by unfold ET;rw[hw];rfl
 grind
def okB(N:an)(q:iJ)(O:Jz):Bool:=cz [.int .i64 (PM q O.bw),.int .i64 (PN q O.bw),.int .i64 (dS N O.bw []).length,.int .i64 (Hd N.cap (gD N O.bw).sum),.int .i64 (M7 O.bw 0)] [.int .i64 O.dep,.int .i64 O.arr,.int .i64 O.b9,.int .i64 O.PO,.int .i64 O.walk]&&decide ((gD N O.bw).l=O.iY)
noncomputable def C3(T:az)(N:an)(q:iJ)(O:Jz):List Fact×Int:=
 if ET T≠0 then([],ET T)else if(iK N q O.bw).2≠0 then([],(iK N q O.bw).2)
 else if okB N q O=false then([],1)else if O.bw.any (gU T N)=true then([],16)
 else(C2 T N q O.bw O.bw.length++O.iY.map (pT O.bw),0)
def PQ(R:List Fact×Int):PV:=.aG [.rs 5 (R.1.map Fact.pv),.int .i64 R.2]
section
variable {T:az} {N:an} {q:iJ} {l:List bx}
theorem UJ(hN:N.Ok)(hp:N.paths.length≤4096)(h12:l.length≤12)(hz:(iK N q l).2=0):QE N q l∧rJ N l=0:=by
 unfold iK at hz;split at hz
 ·rename_i hc;obtain⟨hv,hq⟩:=UK hN hp hc;by_cases h0:l.length=0
  ·have hl:l=[]:=ash h0;subst hl;exact⟨⟨hv,⟨fun k h=>by omega,fun k h=>by omega,fun k h=>by omega⟩,fun k h=>by rfl,h12⟩,rfl⟩
  ·rw[IT h0]at hz;split at hz
   ·rename_i hf;split at hz
    ·rename_i he;refine⟨⟨hv,PR hf,FX.1 hf,h12⟩,?_⟩;grind [FY,List.getElem?_eq_getElem]
    omega
   omega
 omega
theorem UL(out:List Rd)(x:bx):(rdStep N out x).length=out.length+if gV x=true then 1 else 0:=by unfold rdStep gV;grind
theorem LV:∀(l:List bx)(out:List Rd),(dS N l out).length=out.length+l.countP gV
 |[],out=>by rfl
 |x::r,out=>by rw[dS,LV r,UL,aul];omega
theorem WT(l:List bx):∀k,k≤l.length→(ES l k).length=(l.take k).countP gV
 |0,_=>by rfl
 |k+1,hk=>by rw[Au l (by omega),asi,WT l k (by omega),asm (by omega),List.countP_append,aul,List.countP_nil];split<;>simp
theorem aax(l:List bx):(ES l l.length).length=(dS N l []).length:=by simp[WT,aso,asJ,LV]
theorem UM(h:rJ N l=0):(gD N l).l.length≤8∧∀t∈(gD N l).l,0≤t.fst∧t.fst<((ES l l.length).length:Int):=by
 unfold rJ at h;split at h
 ·omega
 ·rename_i h8;split at h
  ·rename_i ho;refine⟨?_,fun t ht=>?_⟩
   ·grind [aay,dS,gD]
   ·rw[aax (N:=N)];exact adb ho t ht
  omega
theorem UN{O:Jz}(uM:T.Ok)(hT:Io T)(hN:N.Ok)(hp:N.paths.length≤4096)(hO:O.Ok)(h12:O.bw.length≤12):dM [T.pv,N.pv,q.pv,O.pv]=some (PQ (C3 T N q O)):=by
 obtain⟨p,i,hw,hv⟩:=Ow T;have hwp:=UO T uM hT.small;rw[hw]at hwp;have hl6:O.bw.length≤1000000:=by omega
 have hcp:=ade (q:=q) hN hp hl6 hO.bw.2;simp only[dM,sK,ttA,tt0,tt1,tt2,tt3,tt4,tt5,tt6,tt7,tt8,tt9,LK,LL,LM,lj,ll,lq,lr,lu,lv,lx,ly,lz,lA,Bd,Be,Bf,Bg,Bh,Bi,Bj,Bk,Bl,Bm,Bn,ajo,ajp,ajq,ajr,ajs,ajt,aju,ajv,U,ttE,pU,He,jF,aS,aI,hwp,tX,t3,abm,ahH,hcp,t2,ac0 T hT,cY,BY];unfold C3;by_cases h1:ET T=0
 ·rw[IT (show¬(ET T !=0)=true by simp[h1]),IT (show¬ET T≠0 by omega)];by_cases h2:(iK N q O.bw).2=0
  ·rw[IT (show¬((iK N q O.bw).2 !=0)=true by simp[h2]),IT (show¬(iK N q O.bw).2≠0 by omega)];obtain⟨hJ,M6⟩:=UJ (q:=q) hN hp h12 h2;have hce:=WU (q:=q) hJ.val hJ.Hc hl6 hO.bw.2;have pj:pV N q O.bw=.aG [.agg [.int .i64 (PM q O.bw),.int .i64 (PN q O.bw),.int .i64 (dS N O.bw []).length,.int .i64 (Hd N.cap (gD N O.bw).sum),.int .i64 (M7 O.bw 0)],.rs 4 ((gD N O.bw).l.map iZ.pv),.int .i64 0]:=by unfold pV;rw[IN M6]
   rw[hce,pj];obtain⟨ht8,kM⟩:=UM M6;have g5':∀a b c d e,[cell (PV.agg [a,b,c,d,e]) 0,cell (PV.agg [a,b,c,d,e]) 1,cell (PV.agg [a,b,c,d,e]) 2,cell (PV.agg [a,b,c,d,e]) 3,cell (PV.agg [a,b,c,d,e]) 4]=[a,b,c,d,e]:=fun a b c d e=>rfl;have c5:∀a b c d e:Int,mI (Kd.int .i64::[].append (Kd.int .i64::[].append (Kd.int .i64::[].append (Kd.int .i64::[].append (Kd.int .i64::[].append []))))) [.int .i64 a,.int .i64 b,.int .i64 c,.int .i64 d,.int .i64 e]=true:=fun a b c d e=>rfl;simp only[U,t3,abm,ahH,g5,aS,aI,g5',c5,auU,BY,aaw _ _ (show(gD N O.bw).l.length≤maxLen by have:maxLen=9223372036854775807:=rfl;omega),aB,ay];rw[show((0:Int) !=0)=false from rfl];rw[as5];have ajw:(!cz [PV.int .i64 (PM q O.bw),.int .i64 (PN q O.bw),.int .i64 (dS N O.bw []).length,.int .i64 (Hd N.cap (gD N O.bw).sum),.int .i64 (M7 O.bw 0)] [.int .i64 O.dep,.int .i64 O.arr,.int .i64 O.b9,.int .i64 O.PO,.int .i64 O.walk]|| !decide ((gD N O.bw).l=O.iY))= !okB N q O:=by unfold okB;simp
   rw[ajw];by_cases h3:okB N q O=false
   ·rw[IN (by simp[h3]),IN h3];rfl
   ·have h3':okB N q O=true:=by simpa using h3
    rw[IT (by simp[h3']),IT h3];have TH:(gD N O.bw).l=O.iY:=by simp_all
    have hL:=aav (q:=q) uM hT (hv h1) hJ (gD N O.bw).l (by omega) kM;rw[TH]at hL⊢;refine hL.trans ?_;split<;>rfl
  ·rw[IN (show((iK N q O.bw).2 !=0)=true by simpa using h2),IN (show(iK N q O.bw).2≠0 from h2)];rfl
 ·rw[IN (show(ET T !=0)=true by simpa using h1),IN (show ET T≠0 from h1)];rfl
end
section
variable {T:az} {N:an} {q:iJ} {l:List bx}
theorem adf(x:cy):fA8 x.pv=x.pv:=rfl
theorem ajx(x:bx):fA9 x.pv=x.pv:=rfl
theorem adg(i:Nat)(hi:i<l.length)(hl:l.length≤12)(x:bx)(o:List PV):oAl (l.map bx.pv) (i:Int) x.pv o=some (.rs 5 (o++(JY l i x).map Fact.pv)):=by
 unfold oAl;rw[WL l i hi hl];unfold JY;cases nxS l i with
 |true=>simp
 |false=>rfl
theorem LW(i:Nat)(hi:i<l.length)(hl:l.length≤12)(x:bx)(o:List PV):oBo (l.map bx.pv) (i:Int) x.pv o=some (.rs 5 (o++(boF i x++JY l i x).map Fact.pv)):=by
 unfold oBo boF;simp only[iW,U];cases x.stay with
 |true=>rw[IT (by simp),IN rfl,adg i hi hl x o];rfl
 |false=>rw[IN (by rfl),IT (by simp)];simp only[kQ,kR,U];rw[adg i hi hl x _,asM,←asy];rfl
theorem adh{a b:bx}{st:Bool}(hN:N.aH.length≤maxLen)(h:Fe N a b st=true)(k:Int→Option PV):oLk N.pv a.pv b.pv st k=k (ag2 (lkI N a b st)):=by obtain⟨j,hj⟩:=RT h;have:=link_ref hN a b st;unfold oLk;rw[show fA9 a.pv=a.pv from rfl,show fA9 b.pv=b.pv from rfl,this,hj];rfl
theorem ajy(o:List PV)(k i a b c:Int)(fs:List Fact):(o.append [fF k i a b c])++fs.map Fact.pv=o++(([(⟨k,i,a,b,c⟩:Fact)]++fs).map Fact.pv):=by show(o++[fF k i a b c])++fs.map Fact.pv=_;rw[asy];rfl
theorem ajz(h:QE N q l)(i:Nat)(hi:i<l.length)(hr:l[i].cr=true)(o:List PV):oJo N.pv (N.stops.map Stop.pv) (l.map bx.pv) (i:Int) l[i].pv o=some (.rs 5 (o++(joF N l l[i] i++(boF i l[i]++JY l i l[i])).map Fact.pv)):=by
 have hf:=h.few;have hl:=h.val.ok.aH.1;cases i with
 |zero=>unfold oJo joF;rw[show decide (((0:Nat):Int)>0)=false from rfl];simp only[cond_false,U,cQ,IS,atx];exact LW 0 hi hf _ _
 |succ j=>
  obtain⟨⟨s,hs1,Jx,Z6⟩,_⟩:=lh (h.Hc.WK (j+1) hi);have hch:=FW hs1;unfold oJo;rw[joF,atD (show((j+1:Nat):Int)>0 by omega),hZ j (by omega),bp bx.pv l j (by omega),cN (show j<l.length by omega)];simp only[cond_true,U,jK];by_cases ha:l[j].cr=true
  ·obtain⟨l1,l2⟩:=h.aH hi ha hr;rw[IN ha,IN ha];simp only[kj,kn,kQ,iW,U,aV Stop.pv Jx hs1,Ir,←hch];by_cases hs:l[j+1].stay=true
   ·rw[IN hs,IN hs,adh hl (l1 hs),LW (j+1) hi hf];exact congrArg (fun z=>some (PV.rs 5 z)) (ajy o _ _ _ _ _ _)
   ·rw[IT hs,IT hs];by_cases hc:IntKind.i64.wrap (l[j+1].dep-l[j].arr)≥Hb N l[j+1].src
    ·rw[IN (by simpa using hc),IN hc,LW (j+1) hi hf];exact congrArg (fun z=>some (PV.rs 5 z)) (ajy o _ _ _ _ _ _)
    ·rw[IT (by simpa using hc),IT hc,adh hl (l2 (by simpa using hs) hc),LW (j+1) hi hf];exact congrArg (fun z=>some (PV.rs 5 z)) (ajy o _ _ _ _ _ _)
  ·rw[IT ha,IT ha,LW (j+1) hi hf];rfl
theorem adi(uM:T.Ok)(hT:Io T)(h:QE N q l)(i:Nat)(hi:i<l.length)(Wj:gU T N l[i]=false):sL [T.pv,N.pv,q.pv,Kh l,.int .i64 (i:Int)]=some (.rs 5 ((lgF T N q l i).map Fact.pv)):=by
 have hf:=h.few;have hmx:maxLen=9223372036854775807:=rfl;have hc:=hT.dm;have hx:=hT.jJ;have TG:lgF T N q l i=Iq T N q l i l[i]:=by grind [lgF,List.getElem?_eq_getElem]
 rw[TG];simp only[sL,C4,ttA,tt0,tt1,tt2,tt3,tt4,tt5,tt6,tt7,tt8,tt9,LK,LL,LM,lj,ll,lq,lr,lu,lv,lx,ly,lz,lA,Bd,Be,Bf,Bg,Bh,Bi,Bj,Bk,Bl,Bm,Bn,jA,j0,U,ttE,pU,He,aS,aI,bp bx.pv l i hi,jK,kS,ajx,adf];by_cases hr:l[i].cr=true
 ·obtain⟨r,t,a,c,hR⟩:=wG h.val ((lh (h.Hc.WK i hi)).2.2.1 hr);have hrn:tW N l[i]=some r:=by unfold tW;rw[IN hR.pB];exact hR.run
  obtain⟨v,hS⟩:∃v,fO T r=some v:=by
   have ar7:(fO T r).isNone=false:=by simp_all[gU]
   cases hS:fO T r with
   |some v=>simp
   |none=>simp_all
  obtain⟨s,hs,hsv⟩:=Ip T uM hT r;have hs':=hsv v hS;subst hs';rw[hS]at hs;have e0:Ab.asInt .i64 (cell r.pv 0)=some r.bD:=rfl;have hfc:Iq T N q l i l[i]=LR T N l i l[i] r s:=by simp_all[Iq,IN]
  rw[hfc,IT (by simp[hr]),aV cy.pv hR.pB hR.run];simp only[U,adf,hs,t2,abm,ahH,aI,aB,e0];have serve:∀c,oSv T.pv N.pv (N.stops.map Stop.pv) (l.map bx.pv) (i:Int) l[i].pv r.pv s c=some (.rs 5 (([(⟨1,i,c,s,r.bD⟩:Fact),⟨2,i,l[i].dep,l[i].arr,Jw (rW T r s) r l[i].ca⟩]++(joF N l l[i] i++(boF i l[i]++JY l i l[i]))).map Fact.pv)):=by intro c;unfold oSv;simp only[e0,kj,kn,kR,U,show fA8 r.pv=r.pv from rfl,ac3 T uM hT r hS hR.Is hR.ca,aI];rw[ajz h i hi hr,asM (l₁:=[(⟨1,i,c,s,r.bD⟩:Fact),⟨2,i,l[i].dep,l[i].arr,Jw (rW T r s) r l[i].ca⟩])];rfl
  unfold LR PK;by_cases h0:r.bD≥0
  ·rw[IN (by simpa using h0),IN h0];have hx:∃x,T.ae[r.bD.toNat]?=some x:=by
    cases hh:T.ae[r.bD.toNat]? with
    |some x=>simp
    |none=>unfold fO at hS;grind
   obtain⟨x,hx⟩:=hx;have e2:Ab.asInt .i64 (cell x.pv 2)=some x.wB:=rfl;rw[hx,aV br.pv h0 hx];grind [U,aio,LX,aI,serve]
  grind
 ·have Cv:l[i].cr=false:=by simpa using hr
  have hN:N.paths.length≤maxLen:=by have:=h.val.ok.paths.1;omega
  have hfc:Iq T N q l i l[i]=LS N q i l[i]:=by unfold Iq;rw[IT hr]
  obtain⟨j,p,h1,h2,h3⟩:=RU (h.walk hi Cv);have hp:=ag1 (q:=q) hN l[i];rw[h1]at hp;have RQ:dA (N.paths.map Path.pv) (j:Int)=some p.pv:=aV Path.pv (by omega) (by simp_all);rw[hfc,IN (by simp[Cv])];simp only[hp,U,aI,RQ,pt3,kj,kn,←h3];unfold LS;simp only[h1,h2];cases p.free<;>rfl
theorem adj(l:List bx):∀n,n≤l.length→∀r b,(ES l n)[r]?=some b→b<n∧(ES l b).length=r∧(ES l (b+1)).length=r+1
 |0,_,r,b,h=>by simp[ES]at h
 |n+1,hn,r,b,h=>by
  have hs:=Au l (show n<l.length by omega);rw[hs]at h;by_cases hr:r<(ES l n).length
  ·rw[asY hr]at h;have:=adj l n (by omega) r b h;omega
  grind
theorem adk(l:List bx){i j:Nat}(h:i≤j):(ES l i).length≤(ES l j).length:=by
 have:∀d,i+d=j→(ES l i).length≤(ES l j).length:=fun d hd=>by grind [ES,List.range_add,List.length_append]
 exact this (j-i) (by omega)
theorem aaz(hl:l.length≤12)(r:Int)(h0:0≤r)(h1:r<((ES l l.length).length:Int)):mU [Kh l,.int .i64 r]=some (.int .i64 (aat l r)):=by
 have cd:r.toNat<(ES l l.length).length:=by omega
 obtain⟨b,hb⟩:∃b,(ES l l.length)[r.toNat]?=some b:=⟨_,cN cd⟩;obtain⟨b1,b2,b3⟩:=adj l l.length (aso _) _ _ hb;have Cu:aat l r=(b:Int):=by unfold aat;rw[hb]
 simp only[mU,wH,jA,j0,U,aI];refine(aC (fun k=>(r,((ES l k).length:Int)-1,(k:Int),l.map bx.pv,())) l.length (fun k=>if decide (((ES l (k+1)).length:Int)-1=r)=true then some (some (PV.int .i64 (k:Int)))else none) (fin:=some (PV.int .i64 0)) (fun k hk rec=>?_) (fun rec=>?_) (by unfold rounds;omega) rfl).trans ?_
 ·have hs:=Au l hk;have Uj:=WQ l k;unfold pW;dsimp only;rw[IN (by simp;omega),bp bx.pv l k hk,aZ (by omega) (by omega),ab (by omega)];simp only[U,jK,iW,aJ];by_cases hb:gV l[k]=true
  ·rw[hs,IN hb,asi,asH];unfold gV at hb;rw[IN hb,show(((ES l k).length:Int)-1+1)=(((ES l k).length+1:Nat):Int)-1 by omega,bX];exact FT _ _ _
  ·rw[hs,IT hb,atc];unfold gV at hb;rw[IT hb,bX];exact FT _ _ _
 ·simp[pW,IT]
 ·rw[Ha,Cu];have:(List.range l.length).find? (fun k=>decide (((ES l (k+1)).length:Int)-1=r))=some b:=by rw[atG];refine⟨by grind,ata.2 b1,fun j hj=>?_⟩;have:=adk l (show j+1≤b by omega);grind
  rw[this]
theorem adl(a b:List iZ)(ha:a.length≤maxLen):jb [.rs 4 (a.map iZ.pv),.rs 4 (b.map iZ.pv)]=some (.bool (decide (a=b))):=by
 have hm:=ai;have hr:=aw;simp only[jb,pX,aS,U,AI,eC];by_cases hl:a.length=b.length
 ·rw[IT (by simp[hl])];refine(dt (fun k=>(a.map iZ.pv,b.map iZ.pv,(k:Int),())) a.length (fun k=> !decide (a[k]?=b[k]?)) (no:=some (.bool false)) (fin:=some (.bool true)) (fun k hk rec=>?_) (fun rec=>?_) (by omega) rfl).trans (LU hl)
  ·unfold ml;dsimp only;rw[IN (by simp;omega),bp iZ.pv a k hk,bp iZ.pv b k (by omega),ab (by omega)];simp only[U,WS,WR,auU,BY,cN hk,cN (show k<b.length by omega),cO]
  simp[ml,IT]
 ·rw[IN (by simp;omega)];congr 2;grind
variable{X:Type}
def rT(T:az)(x:X):=(T.stops.map Stop.pv,T.aj.map ax.pv,T.dm.map mJ.pv,T.jJ.map pE.pv,T.ae.map br.pv,T.bU.map bl.pv,T.uZ.map iG.pv,T.lN.map gC.pv,T.paths.map Path.pv,T.aK.map aM.pv,T.bn,T.within,T.cap,x)
def rN(N:an)(q:iJ)(x:X):=(N.stops.map Stop.pv,N.aj.map ax.pv,N.runs.map cy.pv,N.aH.map bq.pv,N.paths.map Path.pv,N.aK.map aM.pv,N.bn,N.within,N.cap,q.src,q.dst,q.time,q.back,q.b9,q.walk,q.free,q.rG,q.bP,q.HQ,x)
def rO(O:Jz)(x:X):=(O.bw.map bx.pv,O.dep,O.arr,O.b9,O.PO,O.walk,O.iY.map iZ.pv,x)
variable{O:Jz}
theorem UP(hl:O.bw.length≤12)(iY:List iZ)(ht:iY.length≤1000)(kM:∀t∈iY,0≤t.fst∧t.fst<((ES O.bw O.bw.length).length:Int))(o:List Fact)(ho:o.length≤1000):ba.run (pY ba) (iY.map iZ.pv,0,rO O (o.map Fact.pv,()))=some (.aG [.rs 5 ((o++iY.map (pT O.bw)).map Fact.pv),.int .i64 0]):=by
 refine bf (fun k=>(iY.map iZ.pv,(k:Int),rO O ((o++(iY.take k).map (pT O.bw)).map Fact.pv,()))) iY.length (fun k hk rec=>?_) (fun rec=>?_) (by unfold rounds;omega) (by simp)
 ·have hm:=kM _ (ar9 hk);have t0:∀t:iZ,Ab.asInt .i64 (cell t.pv 0)=some t.prod:=fun t=>rfl;have t1:∀t:iZ,Ab.asInt .i64 (cell t.pv 1)=some t.fst:=fun t=>rfl;have t2:∀t:iZ,Ab.asInt .i64 (cell t.pv 2)=some t.lst:=fun t=>rfl;have t3:∀t:iZ,Ab.asInt .i64 (cell t.pv 3)=some t.jL:=fun t=>rfl;have hl2:((o++(iY.take k).map (pT O.bw)).map Fact.pv).length≤100000:=by simp;omega
  rw[show(o++(iY.take (k+1)).map (pT O.bw)).map Fact.pv=(o++(iY.take k).map (pT O.bw)).map Fact.pv++[(pT O.bw iY[k]).pv] by rw[asm hk];grind];generalize (o++(iY.take k).map (pT O.bw)).map Fact.pv=oo at*;unfold pY rO;dsimp only;rw[IN (by simp;omega),bp iZ.pv iY k hk];simp only[U,t0,t1,t2,t3,jF,aaz hl _ hm.1 hm.2,aI,ab (show k<9223372036854775807 by omega)];rw[IN (by grind [List.length_append,List.length_singleton,ah])];rfl
 simp[pY,rO,IT,asJ]
theorem aaA(uM:T.Ok)(hT:Io T)(h:QE N q O.bw)(Wj:O.bw.any (gU T N)=false)(iY:List iZ)(ht:iY.length≤900)(kM:∀t∈iY,0≤t.fst∧t.fst<((ES O.bw O.bw.length).length:Int)):ba.run (mn ba) (iY.map iZ.pv,O.bw.map bx.pv,0,rT T (rN N q (rO O ([],()))))=some (.aG [.rs 5 ((C2 T N q O.bw O.bw.length++iY.map (pT O.bw)).map Fact.pv),.int .i64 0]):=by
 have hf:=h.few;refine bf (fun k=>(iY.map iZ.pv,O.bw.map bx.pv,(k:Int),rT T (rN N q (rO O ((C2 T N q O.bw k).map Fact.pv,()))))) O.bw.length (fun k hk rec=>?_) (fun rec=>?_) (by unfold rounds;omega) rfl
 ·have hb:gU T N O.bw[k]=false:=by simp_all
  have hol:=adi uM hT h k hk hb;have h1:=Av (T:=T) (N:=N) (q:=q) (l:=O.bw) k;have h2:=WI T N q O.bw k;rw[It,asM];unfold mn rT rN rO;dsimp only;rw[IN (by simp;omega),ttE,pU,He,jF,hol];simp only[U,aS,ab (show k<9223372036854775807 by omega)];rw[IN (by grind [List.length_append,List.length_map,ah])]
 ·have h1:=Av (T:=T) (N:=N) (q:=q) (l:=O.bw) O.bw.length;rw[←UP hf iY (by omega) kM _ (show(C2 T N q O.bw O.bw.length).length≤1000 by omega)];simp[mn,rT,rN,rO,IT]
theorem UQ(uM:T.Ok)(hT:Io T)(h:QE N q O.bw)(iY:List iZ)(ht:iY.length≤900)(kM:∀t∈iY,0≤t.fst∧t.fst<((ES O.bw O.bw.length).length:Int)):ba.run (pZ ba) (iY.map iZ.pv,O.bw.map bx.pv,0,rT T (rN N q (rO O ())))=if O.bw.any (gU T N)=true then some B2 else some (.aG [.rs 5 ((C2 T N q O.bw O.bw.length++iY.map (pT O.bw)).map Fact.pv),.int .i64 0]):=by
 have hf:=h.few;have e:((List.range O.bw.length).findSome? fun k=>(O.bw[k]?).bind fun x=>if gU T N x=true then some (some B2)else none)=if O.bw.any (gU T N)=true then some (some B2)else none:=by
  have:=Aw (gU T N) (fun _=>some B2) O.bw;rw[this];cases hh:O.bw.any (gU T N)with
  |true=>
   obtain⟨x,hx,hb⟩:=atd.1 hh;cases hfd:O.bw.find? (gU T N)with
   |none=>simp_all
   |some y=>rfl
  |false=>simp_all
 refine(aC (fun k=>(iY.map iZ.pv,O.bw.map bx.pv,(k:Int),rT T (rN N q (rO O ())))) O.bw.length (fun k=>(O.bw[k]?).bind fun x=>if gU T N x=true then some (some B2)else none) (fin:=ba.run (mn ba) (iY.map iZ.pv,O.bw.map bx.pv,0,rT T (rN N q (rO O ([],()))))) (fun k hk rec=>?_) (fun rec=>?_) (by unfold rounds;omega) rfl).trans ?_
 ·rw[cN hk];simp only[U];unfold pZ rT rN rO;dsimp only;rw[IN (by simp;omega),bp bx.pv O.bw k hk,ab (by omega)];simp only[U,jK,kS];by_cases hr:O.bw[k].cr=true
  ·obtain⟨r,t,a,c,hR⟩:=wG h.val ((lh (h.Hc.WK k hk)).2.2.1 hr);have hrn:tW N O.bw[k]=some r:=by unfold tW;rw[IN hR.pB];exact hR.run
   obtain⟨s,hs,_⟩:=Ip T uM hT r;have Wj:gU T N O.bw[k]=(fO T r).isNone:=by unfold gU;rw[hr,hrn];rfl
   rw[IN hr,aV cy.pv hR.pB hR.run,Wj];simp only[U,aqj,ttE,hs,t2,abm,ahH,aI,aB];cases fO T r<;>rfl
  ·have Wj:gU T N O.bw[k]=false:=by unfold gU;simp_all
   rw[IT hr,Wj,IT (by simp)];rfl
 ·simp[pZ,rT,rN,rO,IT]
 ·rw[e];cases Wj:O.bw.any (gU T N)with
  |true=>rfl
  |false=>rw[IT (by simp),IT (by simp),←aaA uM hT h Wj iY ht kM];rfl
theorem aaB(uM:T.Ok)(hT:Io T)(hN:N.Ok)(hp:N.paths.length≤4096)(hO:O.Ok)(h12:O.bw.length≤12):nQ [T.pv,N.pv,q.pv,O.pv]=some (PQ (C3 T N q O)):=by
 obtain⟨p,i,hw,hv⟩:=Ow T;have hwp:=aaC T uM hT.small;rw[hw]at hwp;have hl6:O.bw.length≤1000000:=by omega
 have hcp:=ag5 (q:=q) hN hp hl6 hO.bw.2;simp only[nQ,C5,ttA,tt0,tt1,tt2,tt3,tt4,tt5,tt6,tt7,tt8,tt9,LK,LL,LM,lj,ll,lq,lr,lu,lv,lx,ly,lz,lA,Bd,Be,Bf,Bg,Bh,Bi,Bj,Bk,Bl,Bm,Bn,ajo,ajp,ajq,ajr,ajs,ajt,aju,ajv,U,ttE,pU,He,jF,aS,aI,hwp,tX,t3,abm,ahH,hcp,t2];unfold C3;by_cases h1:ET T=0
 ·rw[IT (show¬(ET T !=0)=true by simp[h1]),IT (show¬ET T≠0 by omega)];by_cases h2:(iK N q O.bw).2=0
  ·rw[IT (show¬((iK N q O.bw).2 !=0)=true by simp[h2]),IT (show¬(iK N q O.bw).2≠0 by omega)];obtain⟨hJ,M6⟩:=UJ (q:=q) hN hp h12 h2;have hce:=RX (q:=q) hJ.val hJ.Hc hl6 hO.bw.2;have pj:pV N q O.bw=.aG [.agg [.int .i64 (PM q O.bw),.int .i64 (PN q O.bw),.int .i64 (dS N O.bw []).length,.int .i64 (Hd N.cap (gD N O.bw).sum),.int .i64 (M7 O.bw 0)],.rs 4 ((gD N O.bw).l.map iZ.pv),.int .i64 0]:=by unfold pV;rw[IN M6]
   rw[hce,pj];obtain⟨ht8,kM⟩:=UM M6;have g5':∀a b c d e,[cell (PV.agg [a,b,c,d,e]) 0,cell (PV.agg [a,b,c,d,e]) 1,cell (PV.agg [a,b,c,d,e]) 2,cell (PV.agg [a,b,c,d,e]) 3,cell (PV.agg [a,b,c,d,e]) 4]=[a,b,c,d,e]:=fun a b c d e=>rfl;have c5:∀a b c d e:Int,mI (Kd.int .i64::[].append (Kd.int .i64::[].append (Kd.int .i64::[].append (Kd.int .i64::[].append (Kd.int .i64::[].append []))))) [.int .i64 a,.int .i64 b,.int .i64 c,.int .i64 d,.int .i64 e]=true:=fun a b c d e=>rfl;simp only[U,t3,abm,ahH,g5,aS,aI,g5',c5,auU,BY,adl _ _ (show(gD N O.bw).l.length≤maxLen by have:maxLen=9223372036854775807:=rfl;omega),aB,ay];have ajw:(!cz [PV.int .i64 (PM q O.bw),.int .i64 (PN q O.bw),.int .i64 (dS N O.bw []).length,.int .i64 (Hd N.cap (gD N O.bw).sum),.int .i64 (M7 O.bw 0)] [.int .i64 O.dep,.int .i64 O.arr,.int .i64 O.b9,.int .i64 O.PO,.int .i64 O.walk]|| !decide ((gD N O.bw).l=O.iY))= !okB N q O:=by unfold okB;simp
   rw[ajw];by_cases h3:okB N q O=false
   ·rw[IN (by simp[h3]),IN h3];rfl
   ·have h3':okB N q O=true:=by simpa using h3
    rw[IT (by simp[h3']),IT h3];have TH:(gD N O.bw).l=O.iY:=by simp_all
    have hL:=UQ (O:=O) uM hT hJ (gD N O.bw).l (by omega) kM;rw[TH]at hL⊢;refine hL.trans ?_;split<;>rfl
  ·rw[IN (show((iK N q O.bw).2 !=0)=true by simpa using h2),IN (show(iK N q O.bw).2≠0 from h2)];rfl
 ·rw[IN (show(ET T !=0)=true by simpa using h1),IN (show ET T≠0 from h1)];rfl
end
end Go.Ab.Tt
