import Derived.Test.YtmbihgjlollbeaaGreatRnP1
import Derived.Test.YtmbihgjlollbeaaGreatEkO
namespace Go.Ab.Tt
set_option maxRecDepth 100000
set_option linter.unusedVariables false
set_option linter.unusedSimpArgs false
structure Nu(T:ak):Prop where
 stops:T.stops.length≤70
 eM:T.eM.length≤70
 kQ:T.kQ.length≤40
 ag:T.ag.length≤12
 cj:T.cj.length≤100
 small:Small T
def kq(T:ak)(r:ec):Option Int:=
 if r.bR= -1 then some (-1)else if r.bR<0 then none else match T.ag[r.bR.toNat]? with
 |none=>none
 |some x=>if x.id=r.id then(if AY T.eM T.kQ x.xo r.day=true then(if Nv T.cj r.bR=true then(if r.inst<0 then none else(instI T.cj r.bR)[r.inst.toNat]?)else if r.inst=0 then some (-1)else none)else none)else none
def zW(T:ak)(r:ec)(s:Int):List aR:=if r.bR<0 then[]else match T.ag[r.bR.toNat]? with
 |none=>[]
 |some x=>if s≥0 then AZ x.calls s else x.calls
theorem aeh(s:Bytes):bG (.str s)=some s:=rfl
section
variable {K:Type} [DecidableEq K]
def Fm(a:K)(m:List (K×PV)):Bool:=m.any fun x=>decide (a=x.1)
theorem A0(a b:K)(v:PV):∀m:List (K×PV),Fm a (xp b v m)=(decide (a=b)||Fm a m)
 |[]=>by rfl
 |(c,u)::r=>by
  simp only[xp];by_cases h:b=c
  ·subst h;simp[Fm]
  ·have:=A0 a b v r;unfold Fm at this⊢;grind
variable {key:K→PV} (hk:∀a b,cz (key a).cells (key b).cells=decide (a=b))
include hk
theorem K3(a:K):∀m,sH (key a) (ow key m)=Fm a m
 |[]=>rfl
 |(b,u)::r=>by have:=K3 a r;simp only[ow]at this;simp only[ow,ajr,sH,hk,Fm,alb,this]
end
theorem Fo{A B:Type}:∀m:List (A×B),(m.map fun x=>x.fst).zip (m.map fun x=>x.snd)=m
 |[]=>rfl
 |(a,b)::r=>by simp[ajr,alA,Fo]
def gu(l:List bL):Nat→List (Bytes×PV)
 |0=>[]
 |k+1=>match l[k]? with
  |some x=>xp x.id (.int .i64 k) (gu l k)
  |none=>gu l k
theorem xq(l:List bL)(a:Bytes):∀k,Fm a (gu l k)=true↔∃j x,j<k∧l[j]?=some x∧x.id=a
 |0=>by simp[gu,Fm]
 |k+1=>by
  have ih:=xq l a k;unfold gu;constructor
  ·intro h;split at h
   ·rename_i x hx;rw[A0,ajt,AT]at h;grind
   grind
  ·rintro⟨j,y,h1,h2,h3⟩;by_cases e:j=k
   ·simp_all[A0]
   ·have:=ih.2 ⟨j,y,by omega,h2,h3⟩;split
    ·rw[A0,this,al1]
    omega
theorem vq{T:ak}(hV:tC T){j:Nat}{x:bL}(hx:T.ag[j]?=some x)(z:PV):∀k,j<k→s7 x.id z (gu T.ag k)=.int .i64 j
 |0,h=>by omega
 |k+1,h=>by
  unfold gu;by_cases e:j=k
  ·subst e;rw[hx];simp only;rw[q7,GW rfl]
  ·have ih:=vq hV hx z k (by omega);split
   ·rename_i y hy;rw[q7,No (fun hh=>e (Zm hV hx hy hh)),ih]
   omega
def rU(T:ak):List PV:=(ow PV.str (gu T.ag T.ag.length)).map fun x=>x.fst
def rV(T:ak):List PV:=(ow PV.str (gu T.ag T.ag.length)).map fun x=>x.snd
theorem U2(T:ak)(hT:Nu T):lZ [T.pv]=some (.rm 9 (rU T) (rV T)):=by
 have ht:=hT.ag;simp only[lZ,tD,ttA,tt0,tt1,tt2,tt3,tt4,tt5,tt6,tt7,tt8,tt9,U3,U4,U5,aS,aI,aa,BY];refine aZ (fun k=>(T.ag.map bL.pv,(T.ag.length:Int),(k:Int),ow PV.str (gu T.ag k),())) T.ag.length (fun k hk rec=>?_) (fun rec=>?_) (by unfold rounds;omega) rfl
 ·unfold oF;dsimp only;have e0:bG (cell (T.ag[k]).pv 0)=some (T.ag[k]).id:=rfl;rw[GW (by simp;omega),bN bL.pv T.ag k hk,al (by omega)];simp_all[aa,DU,kR,gu,cO]
 ·unfold oF;dsimp only;rw[No (by simp)];rfl
theorem RY{T:ak}(a:Bytes)(z:PV):b9 (.str a) z ((rU T).zip (rV T))=s7 a z (gu T.ag T.ag.length):=by simp[rU,rV,Fo,A1,kR]
theorem U6{T:ak}(a:Bytes):sH (.str a) ((rU T).zip (rV T))=Fm a (gu T.ag T.ag.length):=by simp[rU,rV,Fo,K3,kR]
theorem HN{l:List bL}(a:Bytes):∀k,∃n,s7 a (.int .i64 0) (gu l k)=.int .i64 n
 |0=>⟨0,rfl⟩
 |k+1=>by
  obtain⟨n,hn⟩:=HN (l:=l) a k;unfold gu;split
  ·rw[q7];grind
  ·exact⟨n,hn⟩
theorem Nx(T:ak)(wZ:T.Ok)(hT:Nu T)(hV:tC T)(r:ec):∃(a s:Int)(cs:PV),jQ [T.pv,.rm 9 (rU T) (rV T),r.pv]=some (.aP [.agg [.int .i64 a,.int .i64 s,cs],.bool (kq T r).isSome])∧∀v,kq T r=some v→a=r.bR∧s=v∧aw 5 cs=some ((zW T r v).map aR.pv):=by
 have hm:=aQ;have hmx:maxLen=9223372036854775807:=rfl;have hc:=hT.eM;have hx:=hT.kQ;have hf:=hT.cj;simp only[jQ,pS,cD,ttA,tt0,tt1,tt2,tt3,tt4,tt5,tt6,tt7,tt8,tt9,U3,U4,U5,aei,wg,abU,abV,abW,RZ,abX,abY,I2,aS,aI,aB,aeh,aa,BY,jw,pI,AT,bh,IS,RY,U6];by_cases h1:r.bR= -1
 ·unfold kq;rw[GW h1,GW h1];refine⟨-1,-1,.rs 0 [],rfl,fun v h=>?_⟩;cases h;refine⟨h1.symm,rfl,?_⟩;unfold zW;rw[GW (by omega)];rfl
 rw[No h1];obtain⟨n,hn⟩:=HN (l:=T.ag) r.id T.ag.length;rw[hn];simp only[aI,aa];by_cases hh:Fm r.id (gu T.ag T.ag.length)=true∧n=r.bR
 ·obtain⟨hh1,rfl⟩:=hh;obtain⟨j,x,_,YP,hx2⟩:=(xq T.ag r.id _).1 hh1;have hj:j<T.ag.length:=(By.1 YP).1;have hl:=vq hV YP (.int .i64 0) _ hj;rw[hx2,hn]at hl;have hrj:r.bR=(j:Int):=by simpa using hl
  have hxt:T.ag[r.bR.toNat]?=some x:=by simp_all
  have Zn:fM (T.ag.map bL.pv) r.bR=some x.pv:=bI bL.pv (by omega) hxt;have e2:Ab.asInt .i64 (cell x.pv 2)=some x.xo:=rfl;have e4:aw 5 (cell x.pv 4)=some (x.calls.map aR.pv):=rfl;have hS:kq T r=if AY T.eM T.kQ x.xo r.day=true then(if Nv T.cj r.bR=true then(if r.inst<0 then none else(instI T.cj r.bR)[r.inst.toNat]?)else if r.inst=0 then some (-1)else none)else none:=by simp_all[kq,No,GW]
  have hC:∀v,zW T r v=if v≥0 then AZ x.calls v else x.calls:=fun v=>by simp_all[zW,No]
  simp only[hh1,eq_self,aji,ajx,Bool.or_self,cond_false,aa,Zn,e2,K4 T.eM (by omega) T.kQ (by omega),aB,K5 T.cj (by omega),R0 T.cj (by omega),aS,BY,e4];rw[hS];by_cases h5:AY T.eM T.kQ x.xo r.day=true
  ·simp only[h5,aji,cQ,S3,IS];by_cases h6:Nv T.cj r.bR=true
   ·simp only[h6,aji,cQ,S3,IS];by_cases h7:r.inst<0
    ·simp_all
    ·by_cases h8:r.inst≥((instI T.cj r.bR).length:Int)
     ·simp_all
     ·have hi:r.inst.toNat<(instI T.cj r.bR).length:=by omega
      have bX:(instI T.cj r.bR)[r.inst.toNat]∈instI T.cj (j:Int):=by simp_all
      have hrg:=instI_range _ _ _ bX;have mo:=Ny hV YP bX;rw[No (by simp[h7,h8]),No h7,bI iv (by omega) (cO hi),cO hi];generalize (instI T.cj r.bR)[r.inst.toNat]=w at*;have e5:PV.agg [cell x.pv 0,cell x.pv 1,cell x.pv 2,cell x.pv 3,cell x.pv 4]=x.pv:=rfl;have e6:Ab.asInt .i64 (cell (iv w) 0)=some w:=rfl;have ahD:x.Ok:=wZ.ag.2 x (agx YP);have hfc:=R1 x ahD w ((yK w).2 (by omega)) (hT.small x (agx YP));have t2:∀a b:PV,dq 2 (.aP [a,b])=some [a,b]:=fun a b=>rfl;simp only[aa,e5,e6,hfc,t2,ajf,ajh,aS,aI,mo];refine⟨r.bR,w,_,rfl,fun v h=>?_⟩;cases h;refine⟨rfl,rfl,?_⟩;simp_all[GW,aS]
   ·simp only[h6,ajC,IS,cQ,S3];by_cases h7:r.inst=0
    ·simp only[h7,ajx,IS];refine⟨r.bR,-1,_,rfl,fun v h=>?_⟩;cases h;refine⟨rfl,rfl,?_⟩;simp_all[No,aS]
    simp_all
  simp_all
 ·have hS:kq T r=none:=by
   unfold kq;rw[No h1];split
   ·rfl
   ·rename_i h2;split
    ·rfl
    ·rename_i x hx;split
     ·grind [vq,xq]
     rfl
  rw[hS];have hb:(!Fm r.id (gu T.ag T.ag.length)|| !decide (n=r.bR))=true:=by grind
  rw[hb];simp_all
theorem Py(p:Nat→Bool)(n:Nat)(fin:Option PV):ca ((List.range n).findSome? fun k=>if p k=true then some (some (PV.int .i64 (k:Int)))else none) fin=match(List.range n).find? p with|some k=>some (.int .i64 (k:Int))|none=>fin:=by
 have:∀l:List Nat,ca (l.findSome? fun k=>if p k=true then some (some (PV.int .i64 (k:Int)))else none) fin=match l.find? p with|some k=>some (.int .i64 (k:Int))|none=>fin:=by
  intro l;induction l with
  |nil=>rfl
  |cons a l ih=>
   rw[ajY,List.find?_cons];cases h:p a with
   |true=>rfl
   |false=>simp_all
 exact this _
theorem Zo(s a b c d:Bool):(s&&a&&b&&c&&d)=(a&&b&&c&&d&&s):=by grind
theorem Nz(b:Bool)(x r:Option PV):(if b=true then x else r)=ca (if b=true then some x else none) r:=by cases b<;>rfl
def lkP(N:ae)(a b:bp)(st:Bool)(k:Nat):Bool:=match N.bj[k]? with|some x=>lkB a b st x|none=>false
def lkI(N:ae)(a b:bp)(st:Bool):Option Nat:=(List.range N.bj.length).find? (lkP N a b st)
def ptP(N:ae)(q:gm)(x:bp)(k:Nat):Bool:=match N.paths[k]? with|some p=>wkB x p&&(p.free|| !q.free)|none=>false
def ptI(N:ae)(q:gm)(x:bp):Option Nat:=(List.range N.paths.length).find? (ptP N q x)
variable{N:ae}
theorem U7{a b:bp}{st:Bool}(h:Da N a b st=true):∃k,lkI N a b st=some k:=by
 unfold Da at h;obtain⟨x,hx,hb⟩:=akB.1 h;obtain⟨k,hk⟩:=ajH.1 hx;cases hf:lkI N a b st with
 |some k=>simp
 |none=>have hl:=(By.1 hk).1;have:=List.find?_eq_none.1 hf k (aj5.2 hl);simp_all[lkP,absurd]
theorem I3{q:gm}{x:bp}:∀(l:List Path)(e:Int),wk q x l e=0→e=0∨∃p∈l,(wkB x p&&(p.free|| !q.free))=true
 |[],e,h=>.inl h
 |p::r,e,h=>by
  rw[Pz]at h;split at h
  ·rename_i h1;split at h
   ·simp_all
   ·rcases I3 r 29 h with h3|⟨y,h3,h4⟩
    ·cases h3
    ·exact .inr ⟨y,akD _ h3,h4⟩
  ·rcases I3 r e h with h3|⟨y,h3,h4⟩
   ·exact .inl h3
   ·exact .inr ⟨y,akD _ h3,h4⟩
theorem K6{q:gm}{x:bp}(h:wk q x N.paths 18=0):∃k p,ptI N q x=some k∧N.paths[k]?=some p∧p.jx=IntKind.i64.wrap (x.arr-x.dep):=by
 rcases I3 _ _ h with h|⟨p,hp,hb⟩
 ·omega
 ·obtain⟨k,hk⟩:=ajH.1 hp;cases hf:ptI N q x with
  |none=>have hl:=(By.1 hk).1;have:=List.find?_eq_none.1 hf k (aj5.2 hl);simp_all[ptP,absurd]
  |some j=>
   have:=List.find?_some hf;unfold ptP at this;split at this
   ·rename_i y hy;refine⟨j,y,rfl,hy,?_⟩;simp_all[wkB,OF,AT]
   ·cases this
def Fq(T:ak)(N:ae)(q:gm)(l:List bp)(o:List PV):PV:=.rp [.rs 4 (T.stops.map Stop.pv),.rs 3 (T.ar.map aT.pv),.rs 10 (T.eM.map pL.pv),.rs 3 (T.kQ.map sG.pv),.rs 5 (T.ag.map bL.pv),.rs 4 (T.cj.map bf.pv),.rs 2 (T.sN.map kS.pv),.rs 3 (T.lB.map iP.pv),.rs 4 (T.paths.map Path.pv),.rs 6 (T.ba.map aV.pv),.int .i64 T.bY,.int .i64 T.within,.int .i64 T.cap,.rs 4 (N.stops.map Stop.pv),.rs 3 (N.ar.map aT.pv),.rs 8 (N.runs.map ec.pv),.rs 5 (N.bj.map bA.pv),.rs 4 (N.paths.map Path.pv),.rs 6 (N.ba.map aV.pv),.int .i64 N.bY,.int .i64 N.within,.int .i64 N.cap,.int .i64 q.src,.int .i64 q.dst,.int .i64 q.time,.bool q.back,.int .i64 q.cB,.int .i64 q.walk,.bool q.free,.bool q.sO,.int .i64 q.cq,.bool q.I4,.rs 9 (l.map bp.pv),.rs 5 o]
theorem lk0(x:bA):Ab.asInt .i64 (cell x.pv 0)=some x.a:=rfl
theorem lk1(x:bA):Ab.asInt .i64 (cell x.pv 1)=some x.ac:=rfl
theorem lk2(x:bA):Ab.asInt .i64 (cell x.pv 2)=some x.b:=rfl
theorem lk3(x:bA):Ab.asInt .i64 (cell x.pv 3)=some x.bc:=rfl
theorem lk4(x:bA):Ab.asBool (cell x.pv 4)=some x.stay:=rfl
theorem pt0(x:Path):Ab.asInt .i64 (cell x.pv 0)=some x.a:=rfl
theorem pt1(x:Path):Ab.asInt .i64 (cell x.pv 1)=some x.b:=rfl
theorem pt2(x:Path):Ab.asInt .i64 (cell x.pv 2)=some x.jx:=rfl
theorem pt3(x:Path):Ab.asBool (cell x.pv 3)=some x.free:=rfl
theorem R2{T:ak}{q:gm}{l:List bp}{o:List PV}(hN:N.bj.length≤maxLen)(a b:bp)(st:Bool):fX [Fq T N q l o,a.pv,b.pv,.bool st]=match lkI N a b st with|some k=>some (.int .i64 (k:Int))|none=>some (.int .i64 0):=by
 have hm:=aQ;have hr:=bu;have e:fX [Fq T N q l o,a.pv,b.pv,.bool st]=bn.run fm (st,N.bj.map bA.pv,((N.bj.map bA.pv).length:Int),0,a.cL,a.run,a.ea,a.bV,a.src,a.dst,a.dep,a.arr,a.stay,b.cL,b.run,b.ea,b.bV,b.src,b.dst,b.dep,b.arr,b.stay,()):=rfl;rw[e];refine(br (fun k=>(st,N.bj.map bA.pv,((N.bj.map bA.pv).length:Int),(k:Int),a.cL,a.run,a.ea,a.bV,a.src,a.dst,a.dep,a.arr,a.stay,b.cL,b.run,b.ea,b.bV,b.src,b.dst,b.dep,b.arr,b.stay,())) N.bj.length (fun k=>if lkP N a b st k=true then some (some (.int .i64 (k:Int)))else none) (fin:=some (.int .i64 0)) (fun k hk rec=>?_) (fun rec=>?_) (by omega) rfl).trans (Py _ _ _)
 ·unfold fm;dsimp only;rw[GW (by simp;omega),bN bA.pv N.bj k hk];simp only[aa,lk0,lk1,lk2,lk3,lk4,bE,al (show k<9223372036854775807 by omega)];unfold lkP lkB;rw[cO hk];simp only;generalize N.bj[k]=y;rw[Zo];exact Nz _ _ _
 simp[fm,No]
theorem U8{T:ak}{q:gm}{l:List bp}{o:List PV}(hN:N.paths.length≤maxLen)(x:bp):fY [Fq T N q l o,x.pv]=match ptI N q x with|some k=>some (.int .i64 (k:Int))|none=>some (.int .i64 0):=by
 have hm:=aQ;have hr:=bu;have hw:∃cs,Fq T N q l o=.rp cs∧fY [.rp cs,x.pv]=bn.run fo (.agg cs,N.paths.map Path.pv,((N.paths.map Path.pv).length:Int),0,x.cL,x.run,x.ea,x.bV,x.src,x.dst,x.dep,x.arr,x.stay,())∧Ab.asBool (cell (.agg cs) 28)=some q.free∧PV.agg [cell (.agg cs) 0,cell (.agg cs) 1,cell (.agg cs) 2,cell (.agg cs) 3,cell (.agg cs) 4,cell (.agg cs) 5,cell (.agg cs) 6,cell (.agg cs) 7,cell (.agg cs) 8,cell (.agg cs) 9,cell (.agg cs) 10,cell (.agg cs) 11,cell (.agg cs) 12,cell (.agg cs) 13,cell (.agg cs) 14,cell (.agg cs) 15,cell (.agg cs) 16,cell (.agg cs) 17,cell (.agg cs) 18,cell (.agg cs) 19,cell (.agg cs) 20,cell (.agg cs) 21,cell (.agg cs) 22,cell (.agg cs) 23,cell (.agg cs) 24,cell (.agg cs) 25,cell (.agg cs) 26,cell (.agg cs) 27,cell (.agg cs) 28,cell (.agg cs) 29,cell (.agg cs) 30,cell (.agg cs) 31,cell (.agg cs) 32,cell (.agg cs) 33]=.agg cs:=⟨_,rfl,rfl,rfl,rfl⟩;obtain⟨cs,h1,h2,h3,h4⟩:=hw;rw[h1,h2];refine(br (fun k=>(PV.agg cs,N.paths.map Path.pv,((N.paths.map Path.pv).length:Int),(k:Int),x.cL,x.run,x.ea,x.bV,x.src,x.dst,x.dep,x.arr,x.stay,())) N.paths.length (fun k=>if ptP N q x k=true then some (some (.int .i64 (k:Int)))else none) (fin:=some (.int .i64 0)) (fun k hk rec=>?_) (fun rec=>?_) (by omega) rfl).trans (Py _ _ _)
 ·unfold fo;dsimp only;rw[GW (by simp;omega),bN Path.pv N.paths k hk];simp only[aa,pt0,pt1,pt2,pt3,h3,h4,bE,bh,al (show k<9223372036854775807 by omega),jw];unfold ptP wkB;rw[cO hk];simp only;generalize N.paths[k]=y;exact Nz _ _ _
 simp[fo,No]
def K7(L:List aR)(r:ec)(b:Int):Int:=match L[b.toNat]?,r.calls[b.toNat]? with
 |some k,some c=>if k.stop=c.stop then IntKind.i64.wrap (c.dep-IntKind.i64.wrap (IntKind.i64.wrap (r.day*86400)+k.dep))else 0
 |_,_=>0
theorem aej(x:ec):aw 5 (cell x.pv 7)=some (x.calls.map aR.pv):=rfl
theorem aek(x:ec):Ab.asInt .i64 (cell x.pv 1)=some x.day:=rfl
theorem Zp(L:List aR)(r:ec){b:Int}{c:aR}(hb:0≤b)(hc:r.calls[b.toNat]?=some c):((bif decide (b≥((L.map aR.pv).length:Int))then some true else(fM (L.map aR.pv) b).bind fun p14=>(Ab.asInt .i64 (cell p14 0)).bind fun n15=>(fM (r.calls.map aR.pv) b).bind fun p16=>(Ab.asInt .i64 (cell p16 0)).bind fun n17=>some (n15 !=n17)).bind fun r18=>if r18=true then some (PV.int .i64 0)else(fM (r.calls.map aR.pv) b).bind fun p19=>(Ab.asInt .i64 (cell p19 2)).bind fun n20=>(fM (L.map aR.pv) b).bind fun p21=>(Ab.asInt .i64 (cell p21 2)).bind fun n22=>some (PV.int .i64 (IntKind.i64.wrap (n20-IntKind.i64.wrap (IntKind.i64.wrap (r.day*86400)+n22)))))=some (PV.int .i64 (K7 L r b)):=by
 unfold K7;rw[hc,bI aR.pv hb hc,BY];by_cases h:b≥(L.length:Int)
 ·simp_all
 ·have hl:b.toNat<L.length:=by omega
  rw[bI aR.pv hb (cO hl),cO hl,aj2 h];simp only[cond_false,aa,NA,U9];grind
theorem R3(a s:Int)(cs:PV)(L:List aR)(Nb:aw 5 cs=some (L.map aR.pv))(r:ec){b:Int}{c:aR}(hb:0≤b)(hc:r.calls[b.toNat]?=some c):fZ [.agg [.int .i64 a,.int .i64 s,cs],r.pv,.int .i64 b]=some (.int .i64 (K7 L r b)):=by have e1:Ab.asAgg 3 (.agg [.int .i64 a,.int .i64 s,cs])=some ():=rfl;have e2:cell (.agg [.int .i64 a,.int .i64 s,cs]) 0=.int .i64 a:=rfl;have e3:cell (.agg [.int .i64 a,.int .i64 s,cs]) 1=.int .i64 s:=rfl;have e4:cell (.agg [.int .i64 a,.int .i64 s,cs]) 2=cs:=rfl;simp only[fZ,lF,e1,e2,e3,e4,Nb,aei,wg,abU,abV,abW,RZ,abX,abY,I2,aS,aI,aB,aeh,aa];exact Zp L r hb hc
def GH(l:List bp)(i:Nat):Bool:=match l[i+1]? with|some y=>y.stay|none=>false
def I5(l:List bp)(i:Nat)(x:bp):List Fact:=if GH l i=true then[]else[⟨4,i,x.dst,x.bV,0⟩]
def boF(i:Nat)(x:bp):List Fact:=if x.stay=true then[]else[⟨3,i,x.src,x.ea,0⟩]
def abZ(o:Option Nat):Int:=match o with|some k=>k|none=>0
def Va(N:ae)(l:List bp)(x:bp):Nat→List Fact
 |0=>[]
 |j+1=>match l[j]? with
  |none=>[]
  |some a=>if a.cL=true then(if x.stay=true then[⟨6,((j+1:Nat):Int),abZ (lkI N a x true),1,IntKind.i64.wrap (x.dep-a.arr)⟩]else if IntKind.i64.wrap (x.dep-a.arr)≥Db N x.src then[⟨5,((j+1:Nat):Int),x.src,IntKind.i64.wrap (x.dep-a.arr),Db N x.src⟩]else[⟨6,((j+1:Nat):Int),abZ (lkI N a x false),0,IntKind.i64.wrap (x.dep-a.arr)⟩])else[]
def PA(T:ak)(r:ec):Int:=if r.bR≥0 then(match T.ag[r.bR.toNat]? with|some x=>A2 T.eM T.kQ x.xo r.day|none=>0)else 0
def Dc(T:ak)(N:ae)(l:List bp)(i:Nat)(x:bp)(r:ec)(s:Int):List Fact:=[⟨1,i,PA T r,s,r.bR⟩,⟨2,i,x.dep,x.arr,K7 (zW T r s) r x.ea⟩]++(Va N l x i++(boF i x++I5 l i x))
def Fs(N:ae)(q:gm)(i:Nat)(x:bp):List Fact:=match ptI N q x with
 |some k=>(match N.paths[k]? with|some p=>[⟨7,i,k,p.jx,if p.free=true then 1 else 0⟩]|none=>[])
 |none=>[]
def np(T:ak)(N:ae)(x:bp):Bool:=x.cL&&(match tE N x with|some r=>(kq T r).isNone|none=>true)
def Ft(T:ak)(N:ae)(q:gm)(l:List bp)(i:Nat)(x:bp):List Fact:=if x.cL=true then(match tE N x with|some r=>(match kq T r with|some s=>Dc T N l i x r s|none=>[])|none=>[])else Fs N q i x
def BQ(T:ak)(N:ae)(q:gm)(l:List bp)(i:Nat):List Fact:=match l[i]? with|none=>[]|some x=>Ft T N q l i x
theorem PB(N:ae)(l:List bp)(x:bp):∀i,(Va N l x i).length≤1
 |0=>by simp[Va]
 |j+1=>by grind [Va]
theorem Vb(l:List bp)(i:Nat)(x:bp):(I5 l i x).length≤1:=by unfold I5;grind
theorem Zq(i:Nat)(x:bp):(boF i x).length≤1:=by unfold boF;grind
theorem Zr(T:ak)(N:ae)(q:gm)(l:List bp)(i:Nat):(BQ T N q l i).length≤5:=by
 unfold BQ;split
 ·simp
 ·rename_i x hx;unfold Ft;split
  ·split
   ·split
    ·rename_i r s _ _;have h1:=PB N l x i;grind [Vb,Zq,Dc,List.length_append,List.length_cons,List.length_nil]
    simp
   simp
  grind [Fs]
structure GI(N:ae)(q:gm)(l:List bp):Prop where
 val:wh N
 A3:A4 N l
 place:∀k,k<l.length→nq N q l k=0
 few:l.length≤12
section
variable {T:ak} {N:ae} {q:gm} {l:List bp}
variable{k:Nat}
theorem GI.split(h:GI N q l)(hk:k<l.length):rW N q l[k]=0∧(if k=0 then Ck N q l l[k]else match l[k-1]? with|some a=>if zr N a l[k]=0 then yL N a l[k]else zr N a l[k]|none=>0)=0:=by have hp:=h.place k hk;unfold nq at hp;grind
theorem GI.walk(h:GI N q l)(hk:k<l.length)(hr:l[k].cL=false):wk q l[k] N.paths 18=0:=by have hl:=(h.split hk).1;unfold rW at hl;grind
theorem GI.join(h:GI N q l)(hk:k+1<l.length):zr N l[k] l[k+1]=0∧yL N l[k] l[k+1]=0:=by have:=(h.split hk).2;grind
theorem PC{x:bp}(h:I6 x=false):0≤x.dep∧x.dep≤3155932800∧0≤x.arr∧x.arr≤3155932800:=by simp_all[I6,Fu,ajT,akg,OF,AT]
theorem GI.bj(h:GI N q l)(hk:k+1<l.length)(ha:l[k].cL=true)(hb:l[k+1].cL=true):(l[k+1].stay=true→Da N l[k] l[k+1] true=true)∧(l[k+1].stay=false→¬IntKind.i64.wrap (l[k+1].dep-l[k].arr)≥Db N l[k+1].src→Da N l[k] l[k+1] false=true):=by
 obtain⟨h1,h2⟩:=h.join hk;refine⟨fun hs=>?_,fun hs hc=>?_⟩
 ·unfold zr at h1;grind
 ·obtain⟨⟨s,hs1,PD,Yn⟩,_⟩:=pT (h.A3.GJ (k+1) hk);have uf:=h.val.stop s Yn;have hch:=I7 hs1;have m1:=PC (h.A3.mom (k+1) hk);have m2:=PC (h.A3.mom k (by omega));unfold yL at h2;rw[hb,hs,ha]at h2;rw[No (by simp),No (by simp)]at h2;split at h2
  ·rename_i hh;simp only[ajt,OF,AT]at hh;grind [aY]
  omega
theorem qM{o:List PV}(h:o.length≤100000)(f:PV)(k:List PV→Option PV):DD o f k=k (o++[f]):=by unfold DD;rw[GW (by grind [List.length_append,List.length_singleton,ah])]
theorem Zs(l:List bp)(i:Nat)(hi:i<l.length)(hl:l.length≤12)(f:Bool→Option PV):((bif IntKind.i64.wrap ((i:Int)+1)==((l.map bp.pv).length:Int)then some true else(fM (l.map bp.pv) (IntKind.i64.wrap ((i:Int)+1))).bind fun q=>(Ab.asBool (cell q 8)).bind fun b=>some !b).bind f)=f (!GH l i):=by
 unfold GH;rw[al (by omega),BY];by_cases e:i+1=l.length
 ·simp_all
 ·rw[show(((i+1:Nat):Int)==(l.length:Int))=false by grind,bN bp.pv l (i+1) (by omega),cO (show i+1<l.length by omega)];rfl
theorem Vc(i:Nat)(hi:i<l.length)(hl:l.length≤12)(x:bp)(k:List PV→Option PV)(o:List PV)(ho:o.length≤10000):DV (l.map bp.pv) (i:Int) x.pv k o=k (o++(I5 l i x).map Fact.pv):=by
 unfold DV;rw[Zs l i hi hl];unfold I5;cases GH l i with
 |true=>simp
 |false=>rw[GW (by rfl),No (by simp)];simp only[tF,tG,aa,qM (show o.length≤100000 by omega)];rfl
theorem ab0(i:Nat)(hi:i<l.length)(hl:l.length≤12)(x:bp)(k:List PV→Option PV)(o:List PV)(ho:o.length≤1000):NB (l.map bp.pv) (i:Int) x.pv k o=k (o++(boF i x++I5 l i x).map Fact.pv):=by
 unfold NB boF;simp only[pU,aa];cases x.stay with
 |true=>rw[No (by simp),GW rfl,Vc i hi hl x k o (by omega)];rfl
 |false=>rw[GW (by rfl),No (by simp)];simp only[sP,sQ,aa,qM (show o.length≤100000 by omega)];rw[Vc i hi hl x k _ (by simp;omega),aku,←ajD];rfl
theorem Vd{a b:bp}{st:Bool}{o:List PV}(hN:N.bj.length≤maxLen)(h:Da N a b st=true)(k:Int→Option PV):PE (Fq T N q l o) a.pv b.pv st k=k (abZ (lkI N a b st)):=by obtain⟨j,hj⟩:=U7 h;have:=R2 (T:=T) (N:=N) (q:=q) (l:=l) (o:=o) hN a b st;unfold PE;rw[show fA9 a.pv=a.pv from rfl,show fA9 b.pv=b.pv from rfl,this,hj];rfl
theorem ab1(h:GI N q l)(i:Nat)(hi:i<l.length)(hr:l[i].cL=true)(k:List PV→Option PV)(o:List PV)(ho:o.length≤1000):PF (N.stops.map Stop.pv) (l.map bp.pv) (i:Int) (Fq T N q l) k o=k (o++(Va N l l[i] i).map Fact.pv):=by
 have hf:=h.few;have hl:=h.val.ok.bj.1;cases i with
 |zero=>unfold PF Va;simp
 |succ j=>
  obtain⟨⟨s,hs1,PD,Yn⟩,_⟩:=pT (h.A3.GJ (j+1) hi);have hch:=I7 hs1;unfold PF;rw[Va,show(((j+1:Nat):Int)==0)=false by rfl,oG j (by omega),bN bp.pv l j (by omega),bN bp.pv l (j+1) hi,cO (show j<l.length by omega)];simp only[cond_false,aa,rX];by_cases ha:l[j].cL=true
  ·obtain⟨l1,l2⟩:=h.bj hi ha hr;rw[No (by simp[ha]),GW ha];simp only[sR,sS,sP,pU,aa,bI Stop.pv PD hs1,NC,←hch];by_cases hs:l[j+1].stay=true
   ·rw[GW hs,GW hs,Vd hl (l1 hs),qM (by omega)];rfl
   ·rw[No hs,No hs];by_cases hc:IntKind.i64.wrap (l[j+1].dep-l[j].arr)≥Db N l[j+1].src
    ·rw[GW (by simpa using hc),GW hc,qM (by omega)];rfl
    ·rw[No (by simpa using hc),No hc,Vd hl (l2 (by simpa using hs) hc),qM (by omega)];rfl
  simp_all
theorem Ve(wZ:T.Ok)(hT:Nu T)(h:GI N q l)(i:Nat)(hi:i<l.length)(hr:l[i].cL=true){r:ec}(hrn:tE N l[i]=some r){s:Int}(hs:kq T r=some s)(cs:PV)(Nb:aw 5 cs=some ((zW T r s).map aR.pv))(k:List PV→Option PV)(o:List PV)(ho:o.length≤500):PG (T.eM.map pL.pv) (T.kQ.map sG.pv) (T.ag.map bL.pv) (N.stops.map Stop.pv) (N.runs.map ec.pv) (l.map bp.pv) (i:Int) (Fq T N q l) (.agg [.int .i64 r.bR,.int .i64 s,cs]) k o=k (o++(Dc T N l i l[i] r s).map Fact.pv):=by
 have hf:=h.few;have hmx:maxLen=9223372036854775807:=rfl;have hc:=hT.eM;have hx:=hT.kQ;obtain⟨r',t,a,b,hR⟩:=zX h.val ((pT (h.A3.GJ i hi)).2.2.1 hr);have MP:r'=r:=by have:=hR.run;unfold tE at hrn;simp_all
 subst MP;have e0:Ab.asInt .i64 (cell (PV.agg [.int .i64 r'.bR,.int .i64 s,cs]) 0)=some r'.bR:=rfl;have e1:Ab.asInt .i64 (cell (PV.agg [.int .i64 r'.bR,.int .i64 s,cs]) 1)=some s:=rfl;have serve:∀c,I8 (N.stops.map Stop.pv) (l.map bp.pv) (i:Int) (Fq T N q l) l[i].pv r'.pv (.agg [.int .i64 r'.bR,.int .i64 s,cs]) k o c=k (o++([(⟨1,i,c,s,r'.bR⟩:Fact),⟨2,i,l[i].dep,l[i].arr,K7 (zW T r' s) r' l[i].ea⟩]++(Va N l l[i] i++(boF i l[i]++I5 l i l[i]))).map Fact.pv):=by intro c;unfold I8;rw[show PV.agg [cell (PV.agg [.int .i64 r'.bR,.int .i64 s,cs]) 0,cell (PV.agg [.int .i64 r'.bR,.int .i64 s,cs]) 1,cell (PV.agg [.int .i64 r'.bR,.int .i64 s,cs]) 2]=.agg [.int .i64 r'.bR,.int .i64 s,cs]from rfl,show fA8 r'.pv=r'.pv from rfl];simp only[e0,e1,aa,qM (show o.length≤100000 by omega),sR,sS,sQ,R3 r'.bR s cs _ Nb r' hR.ND hR.ea,aI];rw[qM (by simp;omega),ab1 h i hi hr _ _ (by simp;omega),ab0 i hi hf _ _ _ (by grind [PB])];congr 1;simp only[aku,ajD];rfl
 unfold PG;rw[bN bp.pv l i hi];simp only[aa,sT,bI ec.pv hR.wg hR.run,e0];unfold Dc PA;by_cases h0:r'.bR≥0
 ·rw[GW (by simpa using h0),GW h0];have hx:∃x,T.ag[r'.bR.toNat]?=some x:=by
   cases hh:T.ag[r'.bR.toNat]? with
   |some x=>simp
   |none=>unfold kq at hs;grind
  obtain⟨x,hx⟩:=hx;have e2:Ab.asInt .i64 (cell x.pv 2)=some x.xo:=rfl;rw[hx,bI bL.pv h0 hx];grind [aa,aek,Dd,aI,serve]
 grind
theorem Vf(h:GI N q l)(i:Nat)(hi:i<l.length)(hr:l[i].cL=false)(o':List PV)(k:List PV→Option PV)(o:List PV)(ho:o.length≤500):Vg (l.map bp.pv) (N.paths.map Path.pv) (i:Int) (Fq T N q l o') k o=k (o++(Fs N q i l[i]).map Fact.pv):=by
 have hN:N.paths.length≤maxLen:=by have:=h.val.ok.paths.1;omega
 obtain⟨j,p,h1,h2,h3⟩:=K6 (h.walk hi hr);have hp:=U8 (T:=T) (q:=q) (l:=l) (o:=o') hN l[i];rw[h1]at hp;unfold Vg;rw[bN bp.pv l i hi];have Zn:fM (N.paths.map Path.pv) (j:Int)=some p.pv:=bI Path.pv (by omega) (by simp_all);simp only[aa,show fA9 l[i].pv=l[i].pv from rfl,hp,aI,Zn,pt2,pt3];unfold Fs;simp only[h1,h2];cases p.free<;>(simp only[cQ,IS,S3];rw[qM (by omega)];rfl)
end
set_option maxHeartbeats 4000000
def fSt(T:ak)(N:ae)(q:gm)(l:List bp)(j9:List PV)(k:Nat)(b o:List PV):ab2:=(j9,l.map bp.pv,((l.map bp.pv).length:Int),(k:Int),T.stops.map Stop.pv,T.ar.map aT.pv,T.eM.map pL.pv,T.kQ.map sG.pv,T.ag.map bL.pv,T.cj.map bf.pv,T.sN.map kS.pv,T.lB.map iP.pv,T.paths.map Path.pv,T.ba.map aV.pv,T.bY,T.within,T.cap,.rm 9 (rU T) (rV T),N.stops.map Stop.pv,N.ar.map aT.pv,N.runs.map ec.pv,N.bj.map bA.pv,N.paths.map Path.pv,N.ba.map aV.pv,N.bY,N.within,N.cap,T.stops.map Stop.pv,T.ar.map aT.pv,T.eM.map pL.pv,T.kQ.map sG.pv,T.ag.map bL.pv,T.cj.map bf.pv,T.sN.map kS.pv,T.lB.map iP.pv,T.paths.map Path.pv,T.ba.map aV.pv,T.bY,T.within,T.cap,N.stops.map Stop.pv,N.ar.map aT.pv,N.runs.map ec.pv,N.bj.map bA.pv,N.paths.map Path.pv,N.ba.map aV.pv,N.bY,N.within,N.cap,q.src,q.dst,q.time,q.back,q.cB,q.walk,q.free,q.sO,q.cq,q.I4,l.map bp.pv,b,o,())
def tSt(T:ak)(N:ae)(q:gm)(l:List bp)(j9:List PV)(k:Nat)(b o:List PV):ael:=(j9,(j9.length:Int),(k:Int),T.stops.map Stop.pv,T.ar.map aT.pv,T.eM.map pL.pv,T.kQ.map sG.pv,T.ag.map bL.pv,T.cj.map bf.pv,T.sN.map kS.pv,T.lB.map iP.pv,T.paths.map Path.pv,T.ba.map aV.pv,T.bY,T.within,T.cap,N.stops.map Stop.pv,N.ar.map aT.pv,N.runs.map ec.pv,N.bj.map bA.pv,N.paths.map Path.pv,N.ba.map aV.pv,N.bY,N.within,N.cap,q.src,q.dst,q.time,q.back,q.cB,q.walk,q.free,q.sO,q.cq,q.I4,l.map bp.pv,b,o,())
def Fv:PV:=.aP [.rs 5 [],.int .i64 16]
def Tv(l:List bp)(k:Nat):List Nat:=(List.range k).filter fun i=>match l[i]? with|some x=>dG x|none=>false
theorem A5(l:List bp){k:Nat}(hk:k<l.length):Tv l (k+1)=Tv l k++if dG l[k]=true then[k]else[]:=by unfold Tv;rw[akU,List.filter_append];grind
theorem Zt(l:List bp)(k:Nat):(Tv l k).length≤k:=by have:=akW (fun i=>match l[i]? with|some x=>dG x|none=>false) (List.range k);rw[List.length_range]at this;exact this
def tH(l:List bp)(k:Nat):List PV:=(Tv l k).map fun(i:Nat)=> .int .i64 (i:Int)
section
variable {T:ak} {N:ae} {q:gm} {l:List bp}
def gI(T:ak)(N:ae)(q:gm)(l:List bp)(k:Nat):List Fact:=(List.range k).flatMap (BQ T N q l)
theorem yM(k:Nat):gI T N q l (k+1)=gI T N q l k++BQ T N q l k:=by simp[gI,akU,als]
theorem A6:∀k,(gI T N q l k).length≤5*k
 |0=>by simp[gI]
 |k+1=>by rw[yM,aju];have h1:=A6 k;have h2:=Zr T N q l k;omega
theorem Vh(wZ:T.Ok)(hT:Nu T)(hV:tC T)(h:GI N q l)(j9:List PV)(k:Nat)(hk:k<l.length)(rec:ab2→Option PV):fG bn (fSt T N q l j9 k (tH l k) ((gI T N q l k).map Fact.pv)) rec=if np T N l[k]=true then some Fv else rec (fSt T N q l j9 (k+1) (tH l (k+1)) ((gI T N q l (k+1)).map Fact.pv)):=by
 have hf:=h.few;have ho:=A6 (T:=T) (N:=N) (q:=q) (l:=l) k;have hb:=Zt l k;have Tr:(tH l k).length≤k:=by simp_all[tH,BY]
 have Yo:BQ T N q l k=Ft T N q l k l[k]:=by grind [BQ,List.getElem?_eq_getElem]
 rw[yM,aku,Yo];generalize hob:(gI T N q l k).map Fact.pv=o;have hol:o.length≤60:=by grind
 unfold fG fSt;dsimp only;have hw:∀o,PV.rp [.rs 4 (T.stops.map Stop.pv),.rs 3 (T.ar.map aT.pv),.rs 10 (T.eM.map pL.pv),.rs 3 (T.kQ.map sG.pv),.rs 5 (T.ag.map bL.pv),.rs 4 (T.cj.map bf.pv),.rs 2 (T.sN.map kS.pv),.rs 3 (T.lB.map iP.pv),.rs 4 (T.paths.map Path.pv),.rs 6 (T.ba.map aV.pv),.int .i64 T.bY,.int .i64 T.within,.int .i64 T.cap,.rs 4 (N.stops.map Stop.pv),.rs 3 (N.ar.map aT.pv),.rs 8 (N.runs.map ec.pv),.rs 5 (N.bj.map bA.pv),.rs 4 (N.paths.map Path.pv),.rs 6 (N.ba.map aV.pv),.int .i64 N.bY,.int .i64 N.within,.int .i64 N.cap,.int .i64 q.src,.int .i64 q.dst,.int .i64 q.time,.bool q.back,.int .i64 q.cB,.int .i64 q.walk,.bool q.free,.bool q.sO,.int .i64 q.cq,.bool q.I4,.rs 9 (l.map bp.pv),.rs 5 o]=Fq T N q l o:=fun o=>rfl;simp only[hw,ttE];rw[GW (by simp;omega),bN bp.pv l k hk];simp only[aa,rX,pU,cD,IS];by_cases hr:l[k].cL=true
 ·have hex:=(pT (h.A3.GJ k hk)).2.2.1 hr;obtain⟨r,t,a,c,hR⟩:=zX h.val hex;have hrn:tE N l[k]=some r:=by unfold tE;rw[GW hR.wg];exact hR.run
  obtain⟨ja,js,cs,hj,hjv⟩:=Nx T wZ hT hV r;rw[No (by simp[hr])];have key:∀b,ab3 (N.runs.map ec.pv) T.pv (.rm 9 (rU T) (rV T)) l[k].pv (PG (T.eM.map pL.pv) (T.kQ.map sG.pv) (T.ag.map bL.pv) (N.stops.map Stop.pv) (N.runs.map ec.pv) (l.map bp.pv) (k:Int) fun o=>Fq T N q l o) (fun o=>rec (j9,l.map bp.pv,((l.map bp.pv).length:Int),IntKind.i64.wrap ((k:Int)+1),T.stops.map Stop.pv,T.ar.map aT.pv,T.eM.map pL.pv,T.kQ.map sG.pv,T.ag.map bL.pv,T.cj.map bf.pv,T.sN.map kS.pv,T.lB.map iP.pv,T.paths.map Path.pv,T.ba.map aV.pv,T.bY,T.within,T.cap,.rm 9 (rU T) (rV T),N.stops.map Stop.pv,N.ar.map aT.pv,N.runs.map ec.pv,N.bj.map bA.pv,N.paths.map Path.pv,N.ba.map aV.pv,N.bY,N.within,N.cap,T.stops.map Stop.pv,T.ar.map aT.pv,T.eM.map pL.pv,T.kQ.map sG.pv,T.ag.map bL.pv,T.cj.map bf.pv,T.sN.map kS.pv,T.lB.map iP.pv,T.paths.map Path.pv,T.ba.map aV.pv,T.bY,T.within,T.cap,N.stops.map Stop.pv,N.ar.map aT.pv,N.runs.map ec.pv,N.bj.map bA.pv,N.paths.map Path.pv,N.ba.map aV.pv,N.bY,N.within,N.cap,q.src,q.dst,q.time,q.back,q.cB,q.walk,q.free,q.sO,q.cq,q.I4,l.map bp.pv,b,o,())) o=if np T N l[k]=true then some Fv else rec (fSt T N q l j9 (k+1) b (o++(Ft T N q l k l[k]).map Fact.pv)):=by
   intro b;have t2:∀a b:PV,dq 2 (.aP [a,b])=some [a,b]:=fun a b=>rfl;have a3:Ab.asAgg 3 (.agg [.int .i64 ja,.int .i64 js,cs])=some ():=rfl;unfold ab3;simp only[sT,aa,bI ec.pv hR.wg hR.run,show fA8 r.pv=r.pv from rfl,hj,t2,ajf,ajh,a3,aB];have Pb:np T N l[k]=(kq T r).isNone:=by unfold np;rw[hr,hrn];rfl
   have hfc:∀v,kq T r=some v→Ft T N q l k l[k]=Dc T N l k l[k] r v:=fun v hv=>by simp_all[Ft,GW]
   rw[Pb];cases hS:kq T r with
   |none=>rfl
   |some v=>obtain⟨e1,e2,e3⟩:=hjv v hS;rw[hfc v hS,e1,e2];simp only[alC,Option.isNone_some,aji,cQ,IS,S3];have:=Ve (T:=T) wZ hT h k hk hr hrn hS cs e3 (fun o=>rec (j9,l.map bp.pv,((l.map bp.pv).length:Int),IntKind.i64.wrap ((k:Int)+1),T.stops.map Stop.pv,T.ar.map aT.pv,T.eM.map pL.pv,T.kQ.map sG.pv,T.ag.map bL.pv,T.cj.map bf.pv,T.sN.map kS.pv,T.lB.map iP.pv,T.paths.map Path.pv,T.ba.map aV.pv,T.bY,T.within,T.cap,.rm 9 (rU T) (rV T),N.stops.map Stop.pv,N.ar.map aT.pv,N.runs.map ec.pv,N.bj.map bA.pv,N.paths.map Path.pv,N.ba.map aV.pv,N.bY,N.within,N.cap,T.stops.map Stop.pv,T.ar.map aT.pv,T.eM.map pL.pv,T.kQ.map sG.pv,T.ag.map bL.pv,T.cj.map bf.pv,T.sN.map kS.pv,T.lB.map iP.pv,T.paths.map Path.pv,T.ba.map aV.pv,T.bY,T.within,T.cap,N.stops.map Stop.pv,N.ar.map aT.pv,N.runs.map ec.pv,N.bj.map bA.pv,N.paths.map Path.pv,N.ba.map aV.pv,N.bY,N.within,N.cap,q.src,q.dst,q.time,q.back,q.cB,q.walk,q.free,q.sO,q.cq,q.I4,l.map bp.pv,b,o,())) o (by omega);refine this.trans ?_;rw[al (by omega)];rfl
  by_cases hs:l[k].stay=true
  ·have hbk:tH l (k+1)=tH l k:=by simp_all[tH,A5,No,dG]
   rw[No (by simp[hs]),hbk];exact key _
  ·have hbk:tH l (k+1)=tH l k++[.int .i64 (k:Int)]:=by simp_all[tH,A5,GW,dG]
   rw[GW (by simpa using hs),hbk,GW (by grind [List.length_append,List.length_singleton,ah])];exact key _
 ·have wF:l[k].cL=false:=by simpa using hr
  have Pb:np T N l[k]=false:=by unfold np;rw[wF];rfl
  have hfc:Ft T N q l k l[k]=Fs N q k l[k]:=by unfold Ft;rw[No hr]
  have hbk:tH l (k+1)=tH l k:=by simp_all[tH,A5,No,dG]
  rw[GW (by simp[wF]),Pb,No (by simp),hfc,hbk];have:=Vf (T:=T) h k hk wF o (fun o=>rec (j9,l.map bp.pv,((l.map bp.pv).length:Int),IntKind.i64.wrap ((k:Int)+1),T.stops.map Stop.pv,T.ar.map aT.pv,T.eM.map pL.pv,T.kQ.map sG.pv,T.ag.map bL.pv,T.cj.map bf.pv,T.sN.map kS.pv,T.lB.map iP.pv,T.paths.map Path.pv,T.ba.map aV.pv,T.bY,T.within,T.cap,.rm 9 (rU T) (rV T),N.stops.map Stop.pv,N.ar.map aT.pv,N.runs.map ec.pv,N.bj.map bA.pv,N.paths.map Path.pv,N.ba.map aV.pv,N.bY,N.within,N.cap,T.stops.map Stop.pv,T.ar.map aT.pv,T.eM.map pL.pv,T.kQ.map sG.pv,T.ag.map bL.pv,T.cj.map bf.pv,T.sN.map kS.pv,T.lB.map iP.pv,T.paths.map Path.pv,T.ba.map aV.pv,T.bY,T.within,T.cap,N.stops.map Stop.pv,N.ar.map aT.pv,N.runs.map ec.pv,N.bj.map bA.pv,N.paths.map Path.pv,N.ba.map aV.pv,N.bY,N.within,N.cap,q.src,q.dst,q.time,q.back,q.cB,q.walk,q.free,q.sO,q.cq,q.I4,l.map bp.pv,tH l k,o,())) o (by omega);grind [al]
def ab4(l:List bp)(i:Int):Int:=match(Tv l l.length)[i.toNat]? with|some k=>k|none=>0
def pJ(l:List bp)(t:mW):Fact:=⟨8,ab4 l t.fst,t.prod,t.jy,t.lst⟩
theorem R4(j9:List mW)(ht:j9.length≤1000)(pR:∀t∈j9,0≤t.fst∧t.fst<((Tv l l.length).length:Int))(o:List Fact)(ho:o.length≤1000):bn.run (kT bn) (tSt T N q l (j9.map mW.pv) 0 (tH l l.length) (o.map Fact.pv))=some (.aP [.rs 5 ((o++j9.map (pJ l)).map Fact.pv),.int .i64 0]):=by
 refine aZ (fun k=>tSt T N q l (j9.map mW.pv) k (tH l l.length) ((o++(j9.take k).map (pJ l)).map Fact.pv)) j9.length (fun k hk rec=>?_) (fun rec=>?_) (by unfold rounds;omega) (by simp)
 ·have hm:=pR _ (ajm hk);have bT:j9[k].fst.toNat<(Tv l l.length).length:=by omega
  have Zn:(tH l l.length)[j9[k].fst.toNat]?=some (.int .i64 (ab4 l j9[k].fst)):=by unfold tH ab4;grind
  have hra:au j9[k].fst (tH l l.length).length:=by unfold tH;rw[BY];exact⟨hm.1,hm.2⟩
  have t0:∀t:mW,Ab.asInt .i64 (cell t.pv 0)=some t.prod:=fun t=>rfl;have t1:∀t:mW,Ab.asInt .i64 (cell t.pv 1)=some t.fst:=fun t=>rfl;have t2:∀t:mW,Ab.asInt .i64 (cell t.pv 2)=some t.lst:=fun t=>rfl;have t3:∀t:mW,Ab.asInt .i64 (cell t.pv 3)=some t.jy:=fun t=>rfl;have hl2:((o++(j9.take k).map (pJ l)).map Fact.pv).length≤100000:=by simp;omega
  rw[show(o++(j9.take (k+1)).map (pJ l)).map Fact.pv=(o++(j9.take k).map (pJ l)).map Fact.pv++[(pJ l j9[k]).pv] by rw[ajq hk];grind];generalize (o++(j9.take k).map (pJ l)).map Fact.pv=oo at*;unfold kT tSt;dsimp only;rw[GW (by simp;omega),bN mW.pv j9 k hk];simp only[aa,t0,t1,t2,t3,GW hra,Zn,Vi,aI,qM hl2,al (show k<9223372036854775807 by omega)];rfl
 simp[kT,tSt,No,ajZ]
theorem R5(wZ:T.Ok)(hT:Nu T)(hV:tC T)(h:GI N q l)(j9:List mW)(ht:j9.length≤1000)(pR:∀t∈j9,0≤t.fst∧t.fst<((Tv l l.length).length:Int)):bn.run (fG bn) (fSt T N q l (j9.map mW.pv) 0 [] [])=if l.any (np T N)=true then some Fv else some (.aP [.rs 5 ((gI T N q l l.length++j9.map (pJ l)).map Fact.pv),.int .i64 0]):=by
 have hf:=h.few;have hlen:=A6 (T:=T) (N:=N) (q:=q) (l:=l) l.length;refine(br (fun k=>fSt T N q l (j9.map mW.pv) k (tH l k) ((gI T N q l k).map Fact.pv)) l.length (fun k=>(l[k]?).bind fun x=>if np T N x=true then some (some Fv)else none) (fin:=some (.aP [.rs 5 ((gI T N q l l.length++j9.map (pJ l)).map Fact.pv),.int .i64 0])) (fun k hk rec=>?_) (fun rec=>?_) (by unfold rounds;omega) rfl).trans ?_
 ·simp_all[Vh,cO,aa,Nz]
 ·rw[←R4 (T:=T) (N:=N) (q:=q) j9 ht pR _ (show(gI T N q l l.length).length≤1000 by omega)];unfold fG fSt;dsimp only;rw[No (by simp)];rfl
 ·have e:((List.range l.length).findSome? fun k=>(l[k]?).bind fun x=>if np T N x=true then some (some Fv)else none)=if l.any (np T N)=true then some (some Fv)else none:=by
   have:=Cl (np T N) (fun _=>some Fv) l;rw[this];cases hh:l.any (np T N)with
   |true=>
    obtain⟨x,hx,hb⟩:=akB.1 hh;cases hfd:l.find? (np T N)with
    |none=>simp_all
    |some y=>rfl
   |false=>simp_all
  rw[e];split<;>rfl
end
theorem Vj{A:Type}[DecidableEq A]{a b:List A}(hl:a.length=b.length):(if(List.range a.length).any (fun k=> !decide (a[k]?=b[k]?))=true then some (PV.bool false)else some (PV.bool true))=some (PV.bool (decide (a=b))):=by
 by_cases h:a=b
 ·subst h;simp
 ·rw[GW]
  ·simp[h]
  ·rw[akB];refine aj7 fun hn=>h (ajw fun k=>?_);grind
theorem Zu(x y:mW):cz [cell x.pv 0,cell x.pv 1,cell x.pv 2,cell x.pv 3] [cell y.pv 0,cell y.pv 1,cell y.pv 2,cell y.pv 3]=decide (x=y):=by obtain⟨a1,a2,a3,a4⟩:=x;obtain⟨b1,b2,b3,b4⟩:=y;simp[cell,mW.pv,PV.cells,cz,Ab.peq];rfl
theorem Zv(x:mW):lN (Kd.int .i64::[].append (Kd.int .i64::[].append (Kd.int .i64::[].append (Kd.int .i64::[].append [])))) [cell x.pv 0,cell x.pv 1,cell x.pv 2,cell x.pv 3]=true:=rfl
theorem R6(a b:List mW)(ha:a.length≤maxLen):ga [.rs 4 (a.map mW.pv),.rs 4 (b.map mW.pv)]=some (.bool (decide (a=b))):=by
 have hm:=aQ;have hr:=bu;simp only[ga,lG,aS,aa,BY,pI];by_cases hl:a.length=b.length
 ·rw[No (by simp[hl])];refine(xr (fun k=>(a.map mW.pv,b.map mW.pv,(a.length:Int),(k:Int),())) a.length (fun k=> !decide (a[k]?=b[k]?)) (no:=some (.bool false)) (fin:=some (.bool true)) (fun k hk rec=>?_) (fun rec=>?_) (by omega) rfl).trans (Vj hl)
  ·unfold jd;dsimp only;rw[GW (by simp;omega),bN mW.pv a k hk,bN mW.pv b k (by omega),al (by omega)];simp only[aa,Zv,Zu,and_self,IS,cO hk,cO (show k<b.length by omega),cN]
  simp[jd,No]
 ·rw[GW (by simp;omega)];congr 2;grind
def Fx(T:ak):Int:=match ca ((List.range 10).findSome? (s8 T)) (some (vr 0 0 0))with
 |some (.aP [_,_,.int _ e])=>e
 |_=>0
theorem R7(T:ak):∃p i,ca ((List.range 10).findSome? (s8 T)) (some (vr 0 0 0))=some (vr p i (Fx T))∧(Fx T=0→tC T):=by
 obtain⟨p,i,e,hw,hv⟩:=K8 T;have he:Fx T=e:=by unfold Fx;rw[hw];rfl
 grind
def okB(N:ae)(q:gm)(O:A7):Bool:=cz [.int .i64 (R8 q O.aL),.int .i64 (R9 q O.aL),.int .i64 (fS N O.aL []).length,.int .i64 (GK N.cap (kr N O.aL).sum),.int .i64 (NF O.aL 0)] [.int .i64 O.dep,.int .i64 O.arr,.int .i64 O.cB,.int .i64 O.K9,.int .i64 O.walk]&&decide ((kr N O.aL).l=O.j9)
noncomputable def xt(T:ak)(N:ae)(q:gm)(O:A7):List Fact×Int:=
 if Fx T≠0 then([],Fx T)else if(nr N q O.aL).2≠0 then([],(nr N q O.aL).2)
 else if okB N q O=false then([],1)else if O.aL.any (np T N)=true then([],16)
 else(gI T N q O.aL O.aL.length++O.j9.map (pJ O.aL),0)
def I9(R:List Fact×Int):PV:=.aP [.rs 5 (R.1.map Fact.pv),.int .i64 R.2]
section
variable {T:ak} {N:ae} {q:gm} {l:List bp}
theorem NG(hN:N.Ok)(hp:N.paths.length≤4096)(Vk:l.length≤12)(hz:(nr N q l).2=0):GI N q l∧s9 N l=0:=by
 unfold nr at hz;split at hz
 ·rename_i hc;obtain⟨hv,hq⟩:=Vl hN hp hc;by_cases h0:l.length=0
  ·have hl:l=[]:=ajl h0;subst hl;exact⟨⟨hv,⟨fun k h=>by omega,fun k h=>by omega,fun k h=>by omega⟩,fun k h=>by rfl,Vk⟩,rfl⟩
  ·rw[No h0]at hz;split at hz
   ·rename_i hf;split at hz
    ·rename_i he;refine⟨⟨hv,PH hf,Fy.1 hf,Vk⟩,?_⟩;grind [NH,List.getElem?_eq_getElem]
    omega
   omega
 omega
theorem NI(out:List Rd)(x:bp):(rdStep N out x).length=out.length+if dG x=true then 1 else 0:=by unfold rdStep dG;grind
theorem Fz:∀(l:List bp)(out:List Rd),(fS N l out).length=out.length+l.countP dG
 |[],out=>by rfl
 |x::r,out=>by rw[fS,Fz r,NI,ako];omega
theorem PI(l:List bp):∀k,k≤l.length→(Tv l k).length=(l.take k).countP dG
 |0,_=>by rfl
 |k+1,hk=>by rw[A5 l (by omega),aju,PI l k (by omega),ajq (by omega),akS,ako,akV];split<;>simp
theorem Sa(l:List bp):(Tv l l.length).length=(fS N l []).length:=by simp[PI,ajo,ajZ,Fz]
theorem NJ(h:s9 N l=0):(kr N l).l.length≤8∧∀t∈(kr N l).l,0≤t.fst∧t.fst<((Tv l l.length).length:Int):=by
 unfold s9 at h;split at h
 ·omega
 ·rename_i h8;split at h
  ·rename_i ho;refine⟨?_,fun t ht=>?_⟩
   ·grind [Sb,fS,kr]
   ·rw[Sa (N:=N)];exact Vm ho t ht
  omega
theorem NK{O:A7}(wZ:T.Ok)(hT:Nu T)(hN:N.Ok)(hp:N.paths.length≤4096)(hO:O.Ok)(Vk:O.aL.length≤12):dn [T.pv,N.pv,q.pv,O.pv]=some (I9 (xt T N q O)):=by
 obtain⟨p,i,hw,hv⟩:=R7 T;have hwp:=NL T wZ hT.small;rw[hw]at hwp;have hl6:O.aL.length≤1000000:=by omega
 have hcp:=Vn (q:=q) hN hp hl6 hO.aL.2;simp only[dn,pj,ttA,tt0,tt1,tt2,tt3,tt4,tt5,tt6,tt7,tt8,tt9,U3,U4,U5,A8,A9,Ba,Bb,Bc,Bd,Be,Bf,Bg,Bh,Sc,Sd,Se,Sf,Sg,Si,Sj,Sk,Sl,Sn,Sq,aem,aen,aeo,aep,aeq,aer,aes,aet,aa,ttE,La,ab5,jF,aS,aI,hwp,vr,t3,ajf,ajh,hcp,t2,U2 T hT,cD,IS];unfold xt;by_cases h1:Fx T=0
 ·rw[No (show¬(Fx T !=0)=true by simp[h1]),No (show¬Fx T≠0 by omega)];by_cases h2:(nr N q O.aL).2=0
  ·rw[No (show¬((nr N q O.aL).2 !=0)=true by simp[h2]),No (show¬(nr N q O.aL).2≠0 by omega)];obtain⟨hJ,Kv⟩:=NG (q:=q) hN hp Vk h2;have hce:=PJ (q:=q) hJ.val hJ.A3 hl6 hO.aL.2;have ot:rY N q O.aL=.aP [.agg [.int .i64 (R8 q O.aL),.int .i64 (R9 q O.aL),.int .i64 (fS N O.aL []).length,.int .i64 (GK N.cap (kr N O.aL).sum),.int .i64 (NF O.aL 0)],.rs 4 ((kr N O.aL).l.map mW.pv),.int .i64 0]:=by unfold rY;rw[GW Kv]
   rw[hce,ot];obtain⟨ht8,pR⟩:=NJ Kv;have g5':∀a b c d e,[cell (PV.agg [a,b,c,d,e]) 0,cell (PV.agg [a,b,c,d,e]) 1,cell (PV.agg [a,b,c,d,e]) 2,cell (PV.agg [a,b,c,d,e]) 3,cell (PV.agg [a,b,c,d,e]) 4]=[a,b,c,d,e]:=fun a b c d e=>rfl;have c5:∀a b c d e:Int,lN (Kd.int .i64::[].append (Kd.int .i64::[].append (Kd.int .i64::[].append (Kd.int .i64::[].append (Kd.int .i64::[].append []))))) [.int .i64 a,.int .i64 b,.int .i64 c,.int .i64 d,.int .i64 e]=true:=fun a b c d e=>rfl;simp only[aa,t3,ajf,ajh,g5,aS,aI,g5',c5,and_self,IS,R6 _ _ (show(kr N O.aL).l.length≤maxLen by have:maxLen=9223372036854775807:=rfl;omega),aB,bh];rw[show((0:Int) !=0)=false from rfl];rw[akr];have ahE:(!cz [PV.int .i64 (R8 q O.aL),.int .i64 (R9 q O.aL),.int .i64 (fS N O.aL []).length,.int .i64 (GK N.cap (kr N O.aL).sum),.int .i64 (NF O.aL 0)] [.int .i64 O.dep,.int .i64 O.arr,.int .i64 O.cB,.int .i64 O.K9,.int .i64 O.walk]|| !decide ((kr N O.aL).l=O.j9))= !okB N q O:=by unfold okB;simp
   rw[ahE];by_cases h3:okB N q O=false
   ·rw[GW (by simp[h3]),GW h3];rfl
   ·have Zw:okB N q O=true:=by simpa using h3
    rw[No (by simp[Zw]),No h3];have Tw:(kr N O.aL).l=O.j9:=by simp_all
    have hL:=R5 (q:=q) wZ hT (hv h1) hJ (kr N O.aL).l (by omega) pR;rw[Tw]at hL⊢;refine hL.trans ?_;split<;>rfl
  ·rw[GW (show((nr N q O.aL).2 !=0)=true by simpa using h2),GW (show(nr N q O.aL).2≠0 from h2)];rfl
 ·rw[GW (show(Fx T !=0)=true by simpa using h1),GW (show Fx T≠0 from h1)];rfl
end
section
variable {T:ak} {N:ae} {q:gm} {l:List bp}
variable{X:Type}
def rT(T:ak)(x:X):=(T.stops.map Stop.pv,T.ar.map aT.pv,T.eM.map pL.pv,T.kQ.map sG.pv,T.ag.map bL.pv,T.cj.map bf.pv,T.sN.map kS.pv,T.lB.map iP.pv,T.paths.map Path.pv,T.ba.map aV.pv,T.bY,T.within,T.cap,x)
def rN(N:ae)(q:gm)(x:X):=(N.stops.map Stop.pv,N.ar.map aT.pv,N.runs.map ec.pv,N.bj.map bA.pv,N.paths.map Path.pv,N.ba.map aV.pv,N.bY,N.within,N.cap,q.src,q.dst,q.time,q.back,q.cB,q.walk,q.free,q.sO,q.cq,q.I4,x)
def rO(O:A7)(x:X):=(O.aL.map bp.pv,O.dep,O.arr,O.cB,O.K9,O.walk,O.j9.map mW.pv,x)
end
end Go.Ab.Tt
