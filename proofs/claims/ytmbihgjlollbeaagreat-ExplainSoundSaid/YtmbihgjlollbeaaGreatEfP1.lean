import Derived.Test.YtmbihgjlollbeaaGreatRnP1
import Derived.Test.YtmbihgjlollbeaaGreatEkO
namespace Go.Ab.Tt
set_option maxRecDepth 100000
set_option linter.all false
structure Jx(T:ak):Prop where
 stops:T.stops.length≤70
 eR:T.eR.length≤70
 kZ:T.kZ.length≤40
 ag:T.ag.length≤12
 ck:T.ck.length≤100
 small:Small T
def lO(T:ak)(r:dL):Option Int:=
 if r.bO= -1 then some (-1)else if r.bO<0 then none else match T.ag[r.bO.toNat]? with
 |none=>none
 |some x=>if x.id=r.id then(if Br T.eR T.kZ x.xX r.day=true then(if N8 T.ck r.bO=true then(if r.inst<0 then none else(instI T.ck r.bO)[r.inst.toNat]?)else if r.inst=0 then some (-1)else none)else none)else none
def Az(T:ak)(r:dL)(s:Int):List aQ:=if r.bO<0 then[]else match T.ag[r.bO.toNat]? with
 |none=>[]
 |some x=>if s≥0 then Bs x.calls s else x.calls
theorem Jy(s:Bytes):bu (.str s)=some s:=rfl
section
variable {K:Type} [DecidableEq K]
def FO(a:K)(m:List (K×PV)):Bool:=m.any fun x=>decide (a=x.1)
theorem Bt(a b:K)(v:PV):∀m:List (K×PV),FO a (xY b v m)=(decide (a=b)||FO a m)
 |[]=>by rfl
 |(c,u)::r=>by
  simp only[xY];by_cases h:b=c
  ·subst h;simp[FO]
  ·have:=Bt a b v r;unfold FO at this⊢;grind
variable {key:K→PV} (hk:∀a b,cu (key a).cells (key b).cells=decide (a=b))
include hk
theorem LI(a:K):∀m,th (key a) (oJ key m)=FO a m
 |[]=>rfl
 |(b,u)::r=>by have:=LI a r;simp only[oJ]at this;simp only[oJ,akn,th,hk,FO,al7,this]
end
theorem FP{A B:Type}:∀m:List (A×B),(m.map fun x=>x.fst).zip (m.map fun x=>x.snd)=m
 |[]=>rfl
 |(a,b)::r=>by simp[akn,amv,FP]
def gx(l:List bK):Nat→List (Bytes×PV)
 |0=>[]
 |k+1=>match l[k]? with
  |some x=>xY x.id (.int .i64 k) (gx l k)
  |none=>gx l k
theorem xZ(l:List bK)(a:Bytes):∀k,FO a (gx l k)=true↔∃j x,j<k∧l[j]?=some x∧x.id=a
 |0=>by simp[gx,FO]
 |k+1=>by
  have ih:=xZ l a k;unfold gx;constructor
  ·intro h;split at h
   ·rename_i x hx;rw[Bt,akp,AT]at h;grind
   grind
  ·rintro⟨j,y,h1,h2,h3⟩;by_cases e:j=k
   ·simp_all[Bt]
   ·have:=ih.2 ⟨j,y,by omega,h2,h3⟩;split
    ·rw[Bt,this,amS]
    omega
theorem vN{T:ak}(hV:tZ T){j:Nat}{x:bK}(hx:T.ag[j]?=some x)(z:PV):∀k,j<k→tE x.id z (gx T.ag k)=.int .i64 j
 |0,h=>by omega
 |k+1,h=>by
  unfold gx;by_cases e:j=k
  ·subst e;rw[hx];simp only;rw[rL,AI rfl]
  ·have ih:=vN hV hx z k (by omega);split
   ·rename_i y hy;rw[rL,IS (fun hh=>e (aal hV hx hy hh)),ih]
   omega
def sA(T:ak):List PV:=(oJ PV.str (gx T.ag T.ag.length)).map fun x=>x.fst
def sB(T:ak):List PV:=(oJ PV.str (gx T.ag T.ag.length)).map fun x=>x.snd
theorem Wa(T:ak)(hT:Jx T):mi [T.pv]=some (.rm 9 (sA T) (sB T)):=by
 have ht:=hT.ag;simp only[mi,ua,ttA,tt0,tt1,tt2,tt3,tt4,tt5,tt6,tt7,tt8,tt9,S6,S7,S8,aS,aI,U,BY];refine ba (fun k=>(T.ag.map bK.pv,(T.ag.length:Int),(k:Int),oJ PV.str (gx T.ag k),())) T.ag.length (fun k hk rec=>?_) (fun rec=>?_) (by unfold rounds;omega) rfl
 ·unfold oR;dsimp only;have e0:bu (cell (T.ag[k]).pv 0)=some (T.ag[k]).id:=rfl;rw[AI (by simp;omega),bS bK.pv T.ag k hk,aj (by omega)];simp_all[U,Eg,k8,gx,cN]
 ·unfold oR;dsimp only;rw[IS (by simp)];rfl
theorem S9{T:ak}(a:Bytes)(z:PV):b9 (.str a) z ((sA T).zip (sB T))=tE a z (gx T.ag T.ag.length):=by simp[sA,sB,FP,Bu,k8]
theorem Wb{T:ak}(a:Bytes):th (.str a) ((sA T).zip (sB T))=FO a (gx T.ag T.ag.length):=by simp[sA,sB,FP,LI,k8]
theorem Ib{l:List bK}(a:Bytes):∀k,∃n,tE a (.int .i64 0) (gx l k)=.int .i64 n
 |0=>⟨0,rfl⟩
 |k+1=>by
  obtain⟨n,hn⟩:=Ib (l:=l) a k;unfold gx;split
  ·rw[rL];grind
  ·exact⟨n,hn⟩
theorem N9(T:ak)(tt:T.Ok)(hT:Jx T)(hV:tZ T)(r:dL):∃(a s:Int)(cs:PV),jT [T.pv,.rm 9 (sA T) (sB T),r.pv]=some (.aO [.agg [.int .i64 a,.int .i64 s,cs],.bool (lO T r).isSome])∧∀v,lO T r=some v→a=r.bO∧s=v∧aw 5 cs=some ((Az T r v).map aQ.pv):=by
 have hm:=aT;have hmx:maxLen=9223372036854775807:=rfl;have hc:=hT.eR;have hx:=hT.kZ;have hf:=hT.ck;simp only[jT,qm,cD,ttA,tt0,tt1,tt2,tt3,tt4,tt5,tt6,tt7,tt8,tt9,S6,S7,S8,adg,wI,aam,aan,aao,Oa,aap,aaq,Hb,aS,aI,aB,Jy,U,BY,iG,pW,AT,bf,Ko,S9,Wb];by_cases h1:r.bO= -1
 ·unfold lO;rw[AI h1,AI h1];refine⟨-1,-1,.rs 0 [],rfl,fun v h=>?_⟩;cases h;refine⟨h1.symm,rfl,?_⟩;unfold Az;rw[AI (by omega)];rfl
 rw[IS h1];obtain⟨n,hn⟩:=Ib (l:=T.ag) r.id T.ag.length;rw[hn];simp only[aI,U];by_cases hh:FO r.id (gx T.ag T.ag.length)=true∧n=r.bO
 ·obtain⟨hh1,rfl⟩:=hh;obtain⟨j,x,_,ZT,hx2⟩:=(xZ T.ag r.id _).1 hh1;have hj:j<T.ag.length:=(By.1 ZT).1;have hl:=vN hV ZT (.int .i64 0) _ hj;rw[hx2,hn]at hl;have hrj:r.bO=(j:Int):=by simpa using hl
  have hxt:T.ag[r.bO.toNat]?=some x:=by simp_all
  have hix:fj (T.ag.map bK.pv) r.bO=some x.pv:=bn bK.pv (by omega) hxt;have e2:Ab.asInt .i64 (cell x.pv 2)=some x.xX:=rfl;have e4:aw 5 (cell x.pv 4)=some (x.calls.map aQ.pv):=rfl;have hS:lO T r=if Br T.eR T.kZ x.xX r.day=true then(if N8 T.ck r.bO=true then(if r.inst<0 then none else(instI T.ck r.bO)[r.inst.toNat]?)else if r.inst=0 then some (-1)else none)else none:=by simp_all[lO,IS,AI]
  have hC:∀v,Az T r v=if v≥0 then Bs x.calls v else x.calls:=fun v=>by simp_all[Az,IS]
  simp only[hh1,eq_self,akf,akv,Bool.or_self,cond_false,U,hix,e2,LJ T.eR (by omega) T.kZ (by omega),aB,LK T.ck (by omega),Ta T.ck (by omega),aS,BY,e4];rw[hS];by_cases h5:Br T.eR T.kZ x.xX r.day=true
  ·simp only[h5,akf,cQ,abp,Ko];by_cases h6:N8 T.ck r.bO=true
   ·simp only[h6,akf,cQ,abp,Ko];by_cases h7:r.inst<0
    ·simp_all
    ·by_cases h8:r.inst≥((instI T.ck r.bO).length:Int)
     ·simp_all
     ·have hi:r.inst.toNat<(instI T.ck r.bO).length:=by omega
      have bW:(instI T.ck r.bO)[r.inst.toNat]∈instI T.ck (j:Int):=by simp_all
      have hrg:=instI_range _ _ _ bW;have mH:=Ob hV ZT bW;rw[IS (by simp[h7,h8]),IS h7,bn iv (by omega) (cN hi),cN hi];generalize (instI T.ck r.bO)[r.inst.toNat]=w at*;have e5:PV.agg [cell x.pv 0,cell x.pv 1,cell x.pv 2,cell x.pv 3,cell x.pv 4]=x.pv:=rfl;have e6:Ab.asInt .i64 (cell (iv w) 0)=some w:=rfl;have aiC:x.Ok:=tt.ag.2 x (aeB ZT);have hfc:=Tb x aiC w ((zh w).2 (by omega)) (hT.small x (aeB ZT));have t2:∀a b:PV,dn 2 (.aO [a,b])=some [a,b]:=fun a b=>rfl;simp only[U,e5,e6,hfc,t2,ajc,aka,aS,aI,mH];refine⟨r.bO,w,_,rfl,fun v h=>?_⟩;cases h;refine⟨rfl,rfl,?_⟩;simp_all[AI,aS]
   ·simp only[h6,akz,Ko,cQ,abp];by_cases h7:r.inst=0
    ·simp only[h7,akv,Ko];refine⟨r.bO,-1,_,rfl,fun v h=>?_⟩;cases h;refine⟨rfl,rfl,?_⟩;simp_all[IS,aS]
    simp_all
  simp_all
 ·have hS:lO T r=none:=by
   unfold lO;rw[IS h1];split
   ·rfl
   ·rename_i h2;split
    ·rfl
    ·rename_i x hx;split
     ·grind [vN,xZ]
     rfl
  rw[hS];have hb:(!FO r.id (gx T.ag T.ag.length)|| !decide (n=r.bO))=true:=by grind
  rw[hb];simp_all
theorem Qs(p:Nat→Bool)(n:Nat)(fin:Option PV):ca ((List.range n).findSome? fun k=>if p k=true then some (some (PV.int .i64 (k:Int)))else none) fin=match(List.range n).find? p with|some k=>some (.int .i64 (k:Int))|none=>fin:=by
 have:∀l:List Nat,ca (l.findSome? fun k=>if p k=true then some (some (PV.int .i64 (k:Int)))else none) fin=match l.find? p with|some k=>some (.int .i64 (k:Int))|none=>fin:=by
  intro l;induction l with
  |nil=>rfl
  |cons a l ih=>
   rw[akU,List.find?_cons];cases h:p a with
   |true=>rfl
   |false=>simp_all
 exact this _
theorem aar(s a b c d:Bool):(s&&a&&b&&c&&d)=(a&&b&&c&&d&&s):=by grind
theorem Oc(b:Bool)(x r:Option PV):(if b=true then x else r)=ca (if b=true then some x else none) r:=by cases b<;>rfl
def lkP(N:ab)(a b:bp)(st:Bool)(k:Nat):Bool:=match N.bj[k]? with|some x=>lkB a b st x|none=>false
def lkI(N:ab)(a b:bp)(st:Bool):Option Nat:=(List.range N.bj.length).find? (lkP N a b st)
def ptP(N:ab)(q:gy)(x:bp)(k:Nat):Bool:=match N.paths[k]? with|some p=>wkB x p&&(p.free|| !q.free)|none=>false
def ptI(N:ab)(q:gy)(x:bp):Option Nat:=(List.range N.paths.length).find? (ptP N q x)
variable{N:ab}
theorem Wc{a b:bp}{st:Bool}(h:Dt N a b st=true):∃k,lkI N a b st=some k:=by
 unfold Dt at h;obtain⟨x,hx,hb⟩:=als.1 h;obtain⟨k,hk⟩:=akC.1 hx;cases hf:lkI N a b st with
 |some k=>simp
 |none=>have hl:=(By.1 hk).1;have:=List.find?_eq_none.1 hf k (akS.2 hl);simp_all[lkP,absurd]
theorem Jz{q:gy}{x:bp}:∀(l:List Path)(e:Int),wk q x l e=0→e=0∨∃p∈l,(wkB x p&&(p.free|| !q.free))=true
 |[],e,h=>.inl h
 |p::r,e,h=>by
  rw[Qt]at h;split at h
  ·rename_i h1;split at h
   ·simp_all
   ·rcases Jz r 29 h with h3|⟨y,h3,h4⟩
    ·cases h3
    ·exact .inr ⟨y,aly _ h3,h4⟩
  ·rcases Jz r e h with h3|⟨y,h3,h4⟩
   ·exact .inl h3
   ·exact .inr ⟨y,aly _ h3,h4⟩
theorem Wd{q:gy}{x:bp}(h:wk q x N.paths 18=0):∃k p,ptI N q x=some k∧N.paths[k]?=some p∧p.jD=IntKind.i64.wrap (x.arr-x.dep):=by
 rcases Jz _ _ h with h|⟨p,hp,hb⟩
 ·omega
 ·obtain⟨k,hk⟩:=akC.1 hp;cases hf:ptI N q x with
  |none=>have hl:=(By.1 hk).1;have:=List.find?_eq_none.1 hf k (akS.2 hl);simp_all[ptP,absurd]
  |some j=>
   have:=List.find?_some hf;unfold ptP at this;split at this
   ·rename_i y hy;refine⟨j,y,rfl,hy,?_⟩;simp_all[wkB,No,AT]
   ·cases this
def FQ(T:ak)(N:ab)(q:gy)(l:List bp)(o:List PV):PV:=.rp [.rs 4 (T.stops.map Stop.pv),.rs 3 (T.au.map aV.pv),.rs 10 (T.eR.map qd.pv),.rs 3 (T.kZ.map tg.pv),.rs 5 (T.ag.map bK.pv),.rs 4 (T.ck.map bg.pv),.rs 2 (T.tv.map k9.pv),.rs 3 (T.lJ.map iS.pv),.rs 4 (T.paths.map Path.pv),.rs 6 (T.aP.map aR.pv),.int .i64 T.bX,.int .i64 T.within,.int .i64 T.cap,.rs 4 (N.stops.map Stop.pv),.rs 3 (N.au.map aV.pv),.rs 8 (N.runs.map dL.pv),.rs 5 (N.bj.map bB.pv),.rs 4 (N.paths.map Path.pv),.rs 6 (N.aP.map aR.pv),.int .i64 N.bX,.int .i64 N.within,.int .i64 N.cap,.int .i64 q.src,.int .i64 q.dst,.int .i64 q.time,.bool q.back,.int .i64 q.cB,.int .i64 q.walk,.bool q.free,.bool q.tw,.int .i64 q.cr,.bool q.JA,.rs 9 (l.map bp.pv),.rs 5 o]
theorem lk0(x:bB):Ab.asInt .i64 (cell x.pv 0)=some x.a:=rfl
theorem lk1(x:bB):Ab.asInt .i64 (cell x.pv 1)=some x.ac:=rfl
theorem lk2(x:bB):Ab.asInt .i64 (cell x.pv 2)=some x.b:=rfl
theorem lk3(x:bB):Ab.asInt .i64 (cell x.pv 3)=some x.bc:=rfl
theorem lk4(x:bB):Ab.asBool (cell x.pv 4)=some x.stay:=rfl
theorem pt0(x:Path):Ab.asInt .i64 (cell x.pv 0)=some x.a:=rfl
theorem pt1(x:Path):Ab.asInt .i64 (cell x.pv 1)=some x.b:=rfl
theorem pt2(x:Path):Ab.asInt .i64 (cell x.pv 2)=some x.jD:=rfl
theorem pt3(x:Path):Ab.asBool (cell x.pv 3)=some x.free:=rfl
theorem Tc{T:ak}{q:gy}{l:List bp}{o:List PV}(hN:N.bj.length≤maxLen)(a b:bp)(st:Bool):gd [FQ T N q l o,a.pv,b.pv,.bool st]=match lkI N a b st with|some k=>some (.int .i64 (k:Int))|none=>some (.int .i64 0):=by
 have hm:=aT;have hr:=bw;have e:gd [FQ T N q l o,a.pv,b.pv,.bool st]=bk.run fx (st,N.bj.map bB.pv,((N.bj.map bB.pv).length:Int),0,a.dK,a.run,a.dY,a.bQ,a.src,a.dst,a.dep,a.arr,a.stay,b.dK,b.run,b.dY,b.bQ,b.src,b.dst,b.dep,b.arr,b.stay,()):=rfl;rw[e];refine(br (fun k=>(st,N.bj.map bB.pv,((N.bj.map bB.pv).length:Int),(k:Int),a.dK,a.run,a.dY,a.bQ,a.src,a.dst,a.dep,a.arr,a.stay,b.dK,b.run,b.dY,b.bQ,b.src,b.dst,b.dep,b.arr,b.stay,())) N.bj.length (fun k=>if lkP N a b st k=true then some (some (.int .i64 (k:Int)))else none) (fin:=some (.int .i64 0)) (fun k hk rec=>?_) (fun rec=>?_) (by omega) rfl).trans (Qs _ _ _)
 ·unfold fx;dsimp only;rw[AI (by simp;omega),bS bB.pv N.bj k hk];simp only[U,lk0,lk1,lk2,lk3,lk4,bF,aj (show k<9223372036854775807 by omega)];unfold lkP lkB;rw[cN hk];simp only;generalize N.bj[k]=y;rw[aar];exact Oc _ _ _
 simp[fx,IS]
theorem We{T:ak}{q:gy}{l:List bp}{o:List PV}(hN:N.paths.length≤maxLen)(x:bp):gf [FQ T N q l o,x.pv]=match ptI N q x with|some k=>some (.int .i64 (k:Int))|none=>some (.int .i64 0):=by
 have hm:=aT;have hr:=bw;have hw:∃cs,FQ T N q l o=.rp cs∧gf [.rp cs,x.pv]=bk.run fy (.agg cs,N.paths.map Path.pv,((N.paths.map Path.pv).length:Int),0,x.dK,x.run,x.dY,x.bQ,x.src,x.dst,x.dep,x.arr,x.stay,())∧Ab.asBool (cell (.agg cs) 28)=some q.free∧PV.agg [cell (.agg cs) 0,cell (.agg cs) 1,cell (.agg cs) 2,cell (.agg cs) 3,cell (.agg cs) 4,cell (.agg cs) 5,cell (.agg cs) 6,cell (.agg cs) 7,cell (.agg cs) 8,cell (.agg cs) 9,cell (.agg cs) 10,cell (.agg cs) 11,cell (.agg cs) 12,cell (.agg cs) 13,cell (.agg cs) 14,cell (.agg cs) 15,cell (.agg cs) 16,cell (.agg cs) 17,cell (.agg cs) 18,cell (.agg cs) 19,cell (.agg cs) 20,cell (.agg cs) 21,cell (.agg cs) 22,cell (.agg cs) 23,cell (.agg cs) 24,cell (.agg cs) 25,cell (.agg cs) 26,cell (.agg cs) 27,cell (.agg cs) 28,cell (.agg cs) 29,cell (.agg cs) 30,cell (.agg cs) 31,cell (.agg cs) 32,cell (.agg cs) 33]=.agg cs:=⟨_,rfl,rfl,rfl,rfl⟩;obtain⟨cs,h1,h2,h3,h4⟩:=hw;rw[h1,h2];refine(br (fun k=>(PV.agg cs,N.paths.map Path.pv,((N.paths.map Path.pv).length:Int),(k:Int),x.dK,x.run,x.dY,x.bQ,x.src,x.dst,x.dep,x.arr,x.stay,())) N.paths.length (fun k=>if ptP N q x k=true then some (some (.int .i64 (k:Int)))else none) (fin:=some (.int .i64 0)) (fun k hk rec=>?_) (fun rec=>?_) (by omega) rfl).trans (Qs _ _ _)
 ·unfold fy;dsimp only;rw[AI (by simp;omega),bS Path.pv N.paths k hk];simp only[U,pt0,pt1,pt2,pt3,h3,h4,bF,bf,aj (show k<9223372036854775807 by omega),iG];unfold ptP wkB;rw[cN hk];simp only;generalize N.paths[k]=y;exact Oc _ _ _
 simp[fy,IS]
def FT(L:List aQ)(r:dL)(b:Int):Int:=match L[b.toNat]?,r.calls[b.toNat]? with
 |some k,some c=>if k.stop=c.stop then IntKind.i64.wrap (c.dep-IntKind.i64.wrap (IntKind.i64.wrap (r.day*86400)+k.dep))else 0
 |_,_=>0
theorem afr(x:dL):aw 5 (cell x.pv 7)=some (x.calls.map aQ.pv):=rfl
theorem afs(x:dL):Ab.asInt .i64 (cell x.pv 1)=some x.day:=rfl
theorem aas(L:List aQ)(r:dL){b:Int}{c:aQ}(hb:0≤b)(hc:r.calls[b.toNat]?=some c):((bif decide (b≥((L.map aQ.pv).length:Int))then some true else(fj (L.map aQ.pv) b).bind fun p14=>(Ab.asInt .i64 (cell p14 0)).bind fun n15=>(fj (r.calls.map aQ.pv) b).bind fun p16=>(Ab.asInt .i64 (cell p16 0)).bind fun n17=>some (n15 !=n17)).bind fun r18=>if r18=true then some (PV.int .i64 0)else(fj (r.calls.map aQ.pv) b).bind fun p19=>(Ab.asInt .i64 (cell p19 2)).bind fun n20=>(fj (L.map aQ.pv) b).bind fun p21=>(Ab.asInt .i64 (cell p21 2)).bind fun n22=>some (PV.int .i64 (IntKind.i64.wrap (n20-IntKind.i64.wrap (IntKind.i64.wrap (r.day*86400)+n22)))))=some (PV.int .i64 (FT L r b)):=by
 unfold FT;rw[hc,bn aQ.pv hb hc,BY];by_cases h:b≥(L.length:Int)
 ·simp_all
 ·have hl:b.toNat<L.length:=by omega
  rw[bn aQ.pv hb (cN hl),cN hl,alC h];simp only[cond_false,U,Od,Wf];grind
theorem Td(a s:Int)(cs:PV)(L:List aQ)(NT:aw 5 cs=some (L.map aQ.pv))(r:dL){b:Int}{c:aQ}(hb:0≤b)(hc:r.calls[b.toNat]?=some c):gg [.agg [.int .i64 a,.int .i64 s,cs],r.pv,.int .i64 b]=some (.int .i64 (FT L r b)):=by have e1:Ab.asAgg 3 (.agg [.int .i64 a,.int .i64 s,cs])=some ():=rfl;have e2:cell (.agg [.int .i64 a,.int .i64 s,cs]) 0=.int .i64 a:=rfl;have e3:cell (.agg [.int .i64 a,.int .i64 s,cs]) 1=.int .i64 s:=rfl;have e4:cell (.agg [.int .i64 a,.int .i64 s,cs]) 2=cs:=rfl;simp only[gg,lP,e1,e2,e3,e4,NT,adg,wI,aam,aan,aao,Oa,aap,aaq,Hb,aS,aI,aB,Jy,U];exact aas L r hb hc
def nxS(l:List bp)(i:Nat):Bool:=match l[i+1]? with|some y=>y.stay|none=>false
def LL(l:List bp)(i:Nat)(x:bp):List Fact:=if nxS l i=true then[]else[⟨4,i,x.dst,x.bQ,0⟩]
def boF(i:Nat)(x:bp):List Fact:=if x.stay=true then[]else[⟨3,i,x.src,x.dY,0⟩]
def Wg(o:Option Nat):Int:=match o with|some k=>k|none=>0
def joF(N:ab)(l:List bp)(x:bp):Nat→List Fact
 |0=>[]
 |j+1=>match l[j]? with
  |none=>[]
  |some a=>if a.dK=true then(if x.stay=true then[⟨6,((j+1:Nat):Int),Wg (lkI N a x true),1,IntKind.i64.wrap (x.dep-a.arr)⟩]else if IntKind.i64.wrap (x.dep-a.arr)≥Bv N x.src then[⟨5,((j+1:Nat):Int),x.src,IntKind.i64.wrap (x.dep-a.arr),Bv N x.src⟩]else[⟨6,((j+1:Nat):Int),Wg (lkI N a x false),0,IntKind.i64.wrap (x.dep-a.arr)⟩])else[]
def zi(T:ak)(r:dL):Int:=if r.bO≥0 then(match T.ag[r.bO.toNat]? with|some x=>zj T.eR T.kZ x.xX r.day|none=>0)else 0
def Ic(T:ak)(N:ab)(l:List bp)(i:Nat)(x:bp)(r:dL)(s:Int):List Fact:=[⟨1,i,zi T r,s,r.bO⟩,⟨2,i,x.dep,x.arr,FT (Az T r s) r x.dY⟩]++(joF N l x i++(boF i x++LL l i x))
def Ie(N:ab)(q:gy)(i:Nat)(x:bp):List Fact:=match ptI N q x with
 |some k=>(match N.paths[k]? with|some p=>[⟨7,i,k,p.jD,if p.free=true then 1 else 0⟩]|none=>[])
 |none=>[]
def tF(T:ak)(N:ab)(x:bp):Bool:=x.dK&&(match vb N x with|some r=>(lO T r).isNone|none=>true)
def JB(T:ak)(N:ab)(q:gy)(l:List bp)(i:Nat)(x:bp):List Fact:=if x.dK=true then(match vb N x with|some r=>(match lO T r with|some s=>Ic T N l i x r s|none=>[])|none=>[])else Ie N q i x
def lgF(T:ak)(N:ab)(q:gy)(l:List bp)(i:Nat):List Fact:=match l[i]? with|none=>[]|some x=>JB T N q l i x
theorem Qu(N:ab)(l:List bp)(x:bp):∀i,(joF N l x i).length≤1
 |0=>by simp[joF]
 |j+1=>by grind [joF]
theorem Wh(l:List bp)(i:Nat)(x:bp):(LL l i x).length≤1:=by unfold LL;grind
theorem aat(i:Nat)(x:bp):(boF i x).length≤1:=by unfold boF;grind
theorem aau(T:ak)(N:ab)(q:gy)(l:List bp)(i:Nat):(lgF T N q l i).length≤5:=by
 unfold lgF;split
 ·simp
 ·rename_i x hx;unfold JB;split
  ·split
   ·split
    ·rename_i r s _ _;have h1:=Qu N l x i;grind [Wh,aat,Ic,List.length_append,List.length_cons,List.length_nil]
    simp
   simp
  grind [Ie]
structure Nh(N:ab)(q:gy)(l:List bp):Prop where
 val:uE N
 FU:Bw N l
 place:∀k,k<l.length→nF N q l k=0
 few:l.length≤12
section
variable {T:ak} {N:ab} {q:gy} {l:List bp}
variable{k:Nat}
theorem Nh.split(h:Nh N q l)(hk:k<l.length):sC N q l[k]=0∧(if k=0 then Cz N q l l[k]else match l[k-1]? with|some a=>if zU N a l[k]=0 then zk N a l[k]else zU N a l[k]|none=>0)=0:=by have hp:=h.place k hk;unfold nF at hp;grind
theorem Nh.walk(h:Nh N q l)(hk:k<l.length)(hr:l[k].dK=false):wk q l[k] N.paths 18=0:=by have hl:=(h.split hk).1;unfold sC at hl;grind
theorem Nh.join(h:Nh N q l)(hk:k+1<l.length):zU N l[k] l[k+1]=0∧zk N l[k] l[k+1]=0:=by have:=(h.split hk).2;grind
theorem Qv{x:bp}(h:JC x=false):0≤x.dep∧x.dep≤3155932800∧0≤x.arr∧x.arr≤3155932800:=by simp_all[JC,FV,akN,ala,No,AT]
theorem Nh.bj(h:Nh N q l)(hk:k+1<l.length)(ha:l[k].dK=true)(hb:l[k+1].dK=true):(l[k+1].stay=true→Dt N l[k] l[k+1] true=true)∧(l[k+1].stay=false→¬IntKind.i64.wrap (l[k+1].dep-l[k].arr)≥Bv N l[k+1].src→Dt N l[k] l[k+1] false=true):=by
 obtain⟨h1,h2⟩:=h.join hk;refine⟨fun hs=>?_,fun hs hc=>?_⟩
 ·unfold zU at h1;grind
 ·obtain⟨⟨s,hs1,Qw,Zs⟩,_⟩:=sD (h.FU.wJ (k+1) hk);have vp:=h.val.stop s Zs;have hch:=FW hs1;have m1:=Qv (h.FU.mom (k+1) hk);have m2:=Qv (h.FU.mom k (by omega));unfold zk at h2;rw[hb,hs,ha]at h2;rw[IS (by simp),IS (by simp)]at h2;split at h2
  ·rename_i hh;simp only[akp,No,AT]at hh;grind [aY]
  omega
theorem q8{o:List PV}(h:o.length≤100000)(f:PV)(k:List PV→Option PV):DW o f k=k (o++[f]):=by unfold DW;rw[AI (by grind [List.length_append,List.length_singleton,ae])]
theorem aav(l:List bp)(i:Nat)(hi:i<l.length)(hl:l.length≤12)(f:Bool→Option PV):((bif IntKind.i64.wrap ((i:Int)+1)==((l.map bp.pv).length:Int)then some true else(fj (l.map bp.pv) (IntKind.i64.wrap ((i:Int)+1))).bind fun q=>(Ab.asBool (cell q 8)).bind fun b=>some !b).bind f)=f (!nxS l i):=by
 unfold nxS;rw[aj (by omega),BY];by_cases e:i+1=l.length
 ·simp_all
 ·rw[show(((i+1:Nat):Int)==(l.length:Int))=false by grind,bS bp.pv l (i+1) (by omega),cN (show i+1<l.length by omega)];rfl
theorem Wi(i:Nat)(hi:i<l.length)(hl:l.length≤12)(x:bp)(k:List PV→Option PV)(o:List PV)(ho:o.length≤10000):Eh (l.map bp.pv) (i:Int) x.pv k o=k (o++(LL l i x).map Fact.pv):=by
 unfold Eh;rw[aav l i hi hl];unfold LL;cases nxS l i with
 |true=>simp
 |false=>rw[AI (by rfl),IS (by simp)];simp only[sE,sF,U,q8 (show o.length≤100000 by omega)];rfl
theorem adh(i:Nat)(hi:i<l.length)(hl:l.length≤12)(x:bp)(k:List PV→Option PV)(o:List PV)(ho:o.length≤1000):Oe (l.map bp.pv) (i:Int) x.pv k o=k (o++(boF i x++LL l i x).map Fact.pv):=by
 unfold Oe boF;simp only[pX,U];cases x.stay with
 |true=>rw[IS (by simp),AI rfl,Wi i hi hl x k o (by omega)];rfl
 |false=>rw[AI (by rfl),IS (by simp)];simp only[q9,re,U,q8 (show o.length≤100000 by omega)];rw[Wi i hi hl x k _ (by simp;omega),akZ,←akh];rfl
theorem Wj{a b:bp}{st:Bool}{o:List PV}(hN:N.bj.length≤maxLen)(h:Dt N a b st=true)(k:Int→Option PV):Qx (FQ T N q l o) a.pv b.pv st k=k (Wg (lkI N a b st)):=by obtain⟨j,hj⟩:=Wc h;have:=Tc (T:=T) (N:=N) (q:=q) (l:=l) (o:=o) hN a b st;unfold Qx;rw[show fA9 a.pv=a.pv from rfl,show fA9 b.pv=b.pv from rfl,this,hj];rfl
theorem adi(h:Nh N q l)(i:Nat)(hi:i<l.length)(hr:l[i].dK=true)(k:List PV→Option PV)(o:List PV)(ho:o.length≤1000):Qy (N.stops.map Stop.pv) (l.map bp.pv) (i:Int) (FQ T N q l) k o=k (o++(joF N l l[i] i).map Fact.pv):=by
 have hf:=h.few;have hl:=h.val.ok.bj.1;cases i with
 |zero=>unfold Qy joF;simp
 |succ j=>
  obtain⟨⟨s,hs1,Qw,Zs⟩,_⟩:=sD (h.FU.wJ (j+1) hi);have hch:=FW hs1;unfold Qy;rw[joF,show(((j+1:Nat):Int)==0)=false by rfl,rM j (by omega),bS bp.pv l j (by omega),bS bp.pv l (j+1) hi,cN (show j<l.length by omega)];simp only[cond_false,U,rf];by_cases ha:l[j].dK=true
  ·obtain⟨l1,l2⟩:=h.bj hi ha hr;rw[IS (by simp[ha]),AI ha];simp only[ri,rj,q9,pX,U,bn Stop.pv Qw hs1,Of,←hch];by_cases hs:l[j+1].stay=true
   ·rw[AI hs,AI hs,Wj hl (l1 hs),q8 (by omega)];rfl
   ·rw[IS hs,IS hs];by_cases hc:IntKind.i64.wrap (l[j+1].dep-l[j].arr)≥Bv N l[j+1].src
    ·rw[AI (by simpa using hc),AI hc,q8 (by omega)];rfl
    ·rw[IS (by simpa using hc),IS hc,Wj hl (l2 (by simpa using hs) hc),q8 (by omega)];rfl
  simp_all
theorem Wk(tt:T.Ok)(hT:Jx T)(h:Nh N q l)(i:Nat)(hi:i<l.length)(hr:l[i].dK=true){r:dL}(hrn:vb N l[i]=some r){s:Int}(hs:lO T r=some s)(cs:PV)(NT:aw 5 cs=some ((Az T r s).map aQ.pv))(k:List PV→Option PV)(o:List PV)(ho:o.length≤500):Qz (T.eR.map qd.pv) (T.kZ.map tg.pv) (T.ag.map bK.pv) (N.stops.map Stop.pv) (N.runs.map dL.pv) (l.map bp.pv) (i:Int) (FQ T N q l) (.agg [.int .i64 r.bO,.int .i64 s,cs]) k o=k (o++(Ic T N l i l[i] r s).map Fact.pv):=by
 have hf:=h.few;have hmx:maxLen=9223372036854775807:=rfl;have hc:=hT.eR;have hx:=hT.kZ;obtain⟨r',t,a,b,hR⟩:=CA h.val ((sD (h.FU.wJ i hi)).2.2.1 hr);have Ku:r'=r:=by have:=hR.run;unfold vb at hrn;simp_all
 subst Ku;have e0:Ab.asInt .i64 (cell (PV.agg [.int .i64 r'.bO,.int .i64 s,cs]) 0)=some r'.bO:=rfl;have e1:Ab.asInt .i64 (cell (PV.agg [.int .i64 r'.bO,.int .i64 s,cs]) 1)=some s:=rfl;have serve:∀c,JD (N.stops.map Stop.pv) (l.map bp.pv) (i:Int) (FQ T N q l) l[i].pv r'.pv (.agg [.int .i64 r'.bO,.int .i64 s,cs]) k o c=k (o++([(⟨1,i,c,s,r'.bO⟩:Fact),⟨2,i,l[i].dep,l[i].arr,FT (Az T r' s) r' l[i].dY⟩]++(joF N l l[i] i++(boF i l[i]++LL l i l[i]))).map Fact.pv):=by intro c;unfold JD;rw[show PV.agg [cell (PV.agg [.int .i64 r'.bO,.int .i64 s,cs]) 0,cell (PV.agg [.int .i64 r'.bO,.int .i64 s,cs]) 1,cell (PV.agg [.int .i64 r'.bO,.int .i64 s,cs]) 2]=.agg [.int .i64 r'.bO,.int .i64 s,cs]from rfl,show fA8 r'.pv=r'.pv from rfl];simp only[e0,e1,U,q8 (show o.length≤100000 by omega),ri,rj,re,Td r'.bO s cs _ NT r' hR.Og hR.dY,aI];rw[q8 (by simp;omega),adi h i hi hr _ _ (by simp;omega),adh i hi hf _ _ _ (by grind [Qu])];congr 1;simp only[akZ,akh];rfl
 unfold Qz;rw[bS bp.pv l i hi];simp only[U,rn,bn dL.pv hR.wI hR.run,e0];unfold Ic zi;by_cases h0:r'.bO≥0
 ·rw[AI (by simpa using h0),AI h0];have hx:∃x,T.ag[r'.bO.toNat]?=some x:=by
   cases hh:T.ag[r'.bO.toNat]? with
   |some x=>simp
   |none=>unfold lO at hs;grind
  obtain⟨x,hx⟩:=hx;have e2:Ab.asInt .i64 (cell x.pv 2)=some x.xX:=rfl;rw[hx,bn bK.pv h0 hx];grind [U,afs,Du,aI,serve]
 grind
theorem Wl(h:Nh N q l)(i:Nat)(hi:i<l.length)(hr:l[i].dK=false)(o':List PV)(k:List PV→Option PV)(o:List PV)(ho:o.length≤500):Wm (l.map bp.pv) (N.paths.map Path.pv) (i:Int) (FQ T N q l o') k o=k (o++(Ie N q i l[i]).map Fact.pv):=by
 have hN:N.paths.length≤maxLen:=by have:=h.val.ok.paths.1;omega
 obtain⟨j,p,h1,h2,h3⟩:=Wd (h.walk hi hr);have hp:=We (T:=T) (q:=q) (l:=l) (o:=o') hN l[i];rw[h1]at hp;unfold Wm;rw[bS bp.pv l i hi];have hix:fj (N.paths.map Path.pv) (j:Int)=some p.pv:=bn Path.pv (by omega) (by simp_all);simp only[U,show fA9 l[i].pv=l[i].pv from rfl,hp,aI,hix,pt2,pt3];unfold Ie;simp only[h1,h2];cases p.free<;>(simp only[cQ,Ko,abp];rw[q8 (by omega)];rfl)
end
set_option maxHeartbeats 4000000
def fSt(T:ak)(N:ab)(q:gy)(l:List bp)(oS:List PV)(k:Nat)(b o:List PV):adj:=(oS,l.map bp.pv,((l.map bp.pv).length:Int),(k:Int),T.stops.map Stop.pv,T.au.map aV.pv,T.eR.map qd.pv,T.kZ.map tg.pv,T.ag.map bK.pv,T.ck.map bg.pv,T.tv.map k9.pv,T.lJ.map iS.pv,T.paths.map Path.pv,T.aP.map aR.pv,T.bX,T.within,T.cap,.rm 9 (sA T) (sB T),N.stops.map Stop.pv,N.au.map aV.pv,N.runs.map dL.pv,N.bj.map bB.pv,N.paths.map Path.pv,N.aP.map aR.pv,N.bX,N.within,N.cap,T.stops.map Stop.pv,T.au.map aV.pv,T.eR.map qd.pv,T.kZ.map tg.pv,T.ag.map bK.pv,T.ck.map bg.pv,T.tv.map k9.pv,T.lJ.map iS.pv,T.paths.map Path.pv,T.aP.map aR.pv,T.bX,T.within,T.cap,N.stops.map Stop.pv,N.au.map aV.pv,N.runs.map dL.pv,N.bj.map bB.pv,N.paths.map Path.pv,N.aP.map aR.pv,N.bX,N.within,N.cap,q.src,q.dst,q.time,q.back,q.cB,q.walk,q.free,q.tw,q.cr,q.JA,l.map bp.pv,b,o,())
def tSt(T:ak)(N:ab)(q:gy)(l:List bp)(oS:List PV)(k:Nat)(b o:List PV):aft:=(oS,(oS.length:Int),(k:Int),T.stops.map Stop.pv,T.au.map aV.pv,T.eR.map qd.pv,T.kZ.map tg.pv,T.ag.map bK.pv,T.ck.map bg.pv,T.tv.map k9.pv,T.lJ.map iS.pv,T.paths.map Path.pv,T.aP.map aR.pv,T.bX,T.within,T.cap,N.stops.map Stop.pv,N.au.map aV.pv,N.runs.map dL.pv,N.bj.map bB.pv,N.paths.map Path.pv,N.aP.map aR.pv,N.bX,N.within,N.cap,q.src,q.dst,q.time,q.back,q.cB,q.walk,q.free,q.tw,q.cr,q.JA,l.map bp.pv,b,o,())
def FX:PV:=.aO [.rs 5 [],.int .i64 16]
def Ig(l:List bp)(k:Nat):List Nat:=(List.range k).filter fun i=>match l[i]? with|some x=>l0 x|none=>false
theorem Bx(l:List bp){k:Nat}(hk:k<l.length):Ig l (k+1)=Ig l k++if l0 l[k]=true then[k]else[]:=by unfold Ig;rw[al6,List.filter_append];grind
theorem aaw(l:List bp)(k:Nat):(Ig l k).length≤k:=by have:=alR (fun i=>match l[i]? with|some x=>l0 x|none=>false) (List.range k);rw[List.length_range]at this;exact this
def ub(l:List bp)(k:Nat):List PV:=(Ig l k).map fun(i:Nat)=> .int .i64 (i:Int)
section
variable {T:ak} {N:ab} {q:gy} {l:List bp}
def Bz(T:ak)(N:ab)(q:gy)(l:List bp)(k:Nat):List Fact:=(List.range k).flatMap (lgF T N q l)
theorem Ih(k:Nat):Bz T N q l (k+1)=Bz T N q l k++lgF T N q l k:=by simp[Bz,al6,amp]
theorem BA:∀k,(Bz T N q l k).length≤5*k
 |0=>by simp[Bz]
 |k+1=>by rw[Ih,ako];have h1:=BA k;have h2:=aau T N q l k;omega
theorem Wn(tt:T.Ok)(hT:Jx T)(hV:tZ T)(h:Nh N q l)(oS:List PV)(k:Nat)(hk:k<l.length)(rec:adj→Option PV):fN bk (fSt T N q l oS k (ub l k) ((Bz T N q l k).map Fact.pv)) rec=if tF T N l[k]=true then some FX else rec (fSt T N q l oS (k+1) (ub l (k+1)) ((Bz T N q l (k+1)).map Fact.pv)):=by
 have hf:=h.few;have ho:=BA (T:=T) (N:=N) (q:=q) (l:=l) k;have hb:=aaw l k;have Uw:(ub l k).length≤k:=by simp_all[ub,BY]
 have Jt:lgF T N q l k=JB T N q l k l[k]:=by grind [lgF,List.getElem?_eq_getElem]
 rw[Ih,akZ,Jt];generalize hob:(Bz T N q l k).map Fact.pv=o;have hol:o.length≤60:=by grind
 unfold fN fSt;dsimp only;have hw:∀o,PV.rp [.rs 4 (T.stops.map Stop.pv),.rs 3 (T.au.map aV.pv),.rs 10 (T.eR.map qd.pv),.rs 3 (T.kZ.map tg.pv),.rs 5 (T.ag.map bK.pv),.rs 4 (T.ck.map bg.pv),.rs 2 (T.tv.map k9.pv),.rs 3 (T.lJ.map iS.pv),.rs 4 (T.paths.map Path.pv),.rs 6 (T.aP.map aR.pv),.int .i64 T.bX,.int .i64 T.within,.int .i64 T.cap,.rs 4 (N.stops.map Stop.pv),.rs 3 (N.au.map aV.pv),.rs 8 (N.runs.map dL.pv),.rs 5 (N.bj.map bB.pv),.rs 4 (N.paths.map Path.pv),.rs 6 (N.aP.map aR.pv),.int .i64 N.bX,.int .i64 N.within,.int .i64 N.cap,.int .i64 q.src,.int .i64 q.dst,.int .i64 q.time,.bool q.back,.int .i64 q.cB,.int .i64 q.walk,.bool q.free,.bool q.tw,.int .i64 q.cr,.bool q.JA,.rs 9 (l.map bp.pv),.rs 5 o]=FQ T N q l o:=fun o=>rfl;simp only[hw,ttE];rw[AI (by simp;omega),bS bp.pv l k hk];simp only[U,rf,pX,cD,Ko];by_cases hr:l[k].dK=true
 ·have hex:=(sD (h.FU.wJ k hk)).2.2.1 hr;obtain⟨r,t,a,c,hR⟩:=CA h.val hex;have hrn:vb N l[k]=some r:=by unfold vb;rw[AI hR.wI];exact hR.run
  obtain⟨ja,js,cs,hj,hjv⟩:=N9 T tt hT hV r;rw[IS (by simp[hr])];have key:∀b,adk (N.runs.map dL.pv) T.pv (.rm 9 (sA T) (sB T)) l[k].pv (Qz (T.eR.map qd.pv) (T.kZ.map tg.pv) (T.ag.map bK.pv) (N.stops.map Stop.pv) (N.runs.map dL.pv) (l.map bp.pv) (k:Int) fun o=>FQ T N q l o) (fun o=>rec (oS,l.map bp.pv,((l.map bp.pv).length:Int),IntKind.i64.wrap ((k:Int)+1),T.stops.map Stop.pv,T.au.map aV.pv,T.eR.map qd.pv,T.kZ.map tg.pv,T.ag.map bK.pv,T.ck.map bg.pv,T.tv.map k9.pv,T.lJ.map iS.pv,T.paths.map Path.pv,T.aP.map aR.pv,T.bX,T.within,T.cap,.rm 9 (sA T) (sB T),N.stops.map Stop.pv,N.au.map aV.pv,N.runs.map dL.pv,N.bj.map bB.pv,N.paths.map Path.pv,N.aP.map aR.pv,N.bX,N.within,N.cap,T.stops.map Stop.pv,T.au.map aV.pv,T.eR.map qd.pv,T.kZ.map tg.pv,T.ag.map bK.pv,T.ck.map bg.pv,T.tv.map k9.pv,T.lJ.map iS.pv,T.paths.map Path.pv,T.aP.map aR.pv,T.bX,T.within,T.cap,N.stops.map Stop.pv,N.au.map aV.pv,N.runs.map dL.pv,N.bj.map bB.pv,N.paths.map Path.pv,N.aP.map aR.pv,N.bX,N.within,N.cap,q.src,q.dst,q.time,q.back,q.cB,q.walk,q.free,q.tw,q.cr,q.JA,l.map bp.pv,b,o,())) o=if tF T N l[k]=true then some FX else rec (fSt T N q l oS (k+1) b (o++(JB T N q l k l[k]).map Fact.pv)):=by
   intro b;have t2:∀a b:PV,dn 2 (.aO [a,b])=some [a,b]:=fun a b=>rfl;have a3:Ab.asAgg 3 (.agg [.int .i64 ja,.int .i64 js,cs])=some ():=rfl;unfold adk;simp only[rn,U,bn dL.pv hR.wI hR.run,show fA8 r.pv=r.pv from rfl,hj,t2,ajc,aka,a3,aB];have hnb:tF T N l[k]=(lO T r).isNone:=by unfold tF;rw[hr,hrn];rfl
   have hfc:∀v,lO T r=some v→JB T N q l k l[k]=Ic T N l k l[k] r v:=fun v hv=>by simp_all[JB,AI]
   rw[hnb];cases hS:lO T r with
   |none=>rfl
   |some v=>obtain⟨e1,e2,e3⟩:=hjv v hS;rw[hfc v hS,e1,e2];simp only[amy,Option.isNone_some,akf,cQ,Ko,abp];have:=Wk (T:=T) tt hT h k hk hr hrn hS cs e3 (fun o=>rec (oS,l.map bp.pv,((l.map bp.pv).length:Int),IntKind.i64.wrap ((k:Int)+1),T.stops.map Stop.pv,T.au.map aV.pv,T.eR.map qd.pv,T.kZ.map tg.pv,T.ag.map bK.pv,T.ck.map bg.pv,T.tv.map k9.pv,T.lJ.map iS.pv,T.paths.map Path.pv,T.aP.map aR.pv,T.bX,T.within,T.cap,.rm 9 (sA T) (sB T),N.stops.map Stop.pv,N.au.map aV.pv,N.runs.map dL.pv,N.bj.map bB.pv,N.paths.map Path.pv,N.aP.map aR.pv,N.bX,N.within,N.cap,T.stops.map Stop.pv,T.au.map aV.pv,T.eR.map qd.pv,T.kZ.map tg.pv,T.ag.map bK.pv,T.ck.map bg.pv,T.tv.map k9.pv,T.lJ.map iS.pv,T.paths.map Path.pv,T.aP.map aR.pv,T.bX,T.within,T.cap,N.stops.map Stop.pv,N.au.map aV.pv,N.runs.map dL.pv,N.bj.map bB.pv,N.paths.map Path.pv,N.aP.map aR.pv,N.bX,N.within,N.cap,q.src,q.dst,q.time,q.back,q.cB,q.walk,q.free,q.tw,q.cr,q.JA,l.map bp.pv,b,o,())) o (by omega);refine this.trans ?_;rw[aj (by omega)];rfl
  by_cases hs:l[k].stay=true
  ·have hbk:ub l (k+1)=ub l k:=by simp_all[ub,Bx,IS,l0]
   rw[IS (by simp[hs]),hbk];exact key _
  ·have hbk:ub l (k+1)=ub l k++[.int .i64 (k:Int)]:=by simp_all[ub,Bx,AI,l0]
   rw[AI (by simpa using hs),hbk,AI (by grind [List.length_append,List.length_singleton,ae])];exact key _
 ·have zJ:l[k].dK=false:=by simpa using hr
  have hnb:tF T N l[k]=false:=by unfold tF;rw[zJ];rfl
  have hfc:JB T N q l k l[k]=Ie N q k l[k]:=by unfold JB;rw[IS hr]
  have hbk:ub l (k+1)=ub l k:=by simp_all[ub,Bx,IS,l0]
  rw[AI (by simp[zJ]),hnb,IS (by simp),hfc,hbk];have:=Wl (T:=T) h k hk zJ o (fun o=>rec (oS,l.map bp.pv,((l.map bp.pv).length:Int),IntKind.i64.wrap ((k:Int)+1),T.stops.map Stop.pv,T.au.map aV.pv,T.eR.map qd.pv,T.kZ.map tg.pv,T.ag.map bK.pv,T.ck.map bg.pv,T.tv.map k9.pv,T.lJ.map iS.pv,T.paths.map Path.pv,T.aP.map aR.pv,T.bX,T.within,T.cap,.rm 9 (sA T) (sB T),N.stops.map Stop.pv,N.au.map aV.pv,N.runs.map dL.pv,N.bj.map bB.pv,N.paths.map Path.pv,N.aP.map aR.pv,N.bX,N.within,N.cap,T.stops.map Stop.pv,T.au.map aV.pv,T.eR.map qd.pv,T.kZ.map tg.pv,T.ag.map bK.pv,T.ck.map bg.pv,T.tv.map k9.pv,T.lJ.map iS.pv,T.paths.map Path.pv,T.aP.map aR.pv,T.bX,T.within,T.cap,N.stops.map Stop.pv,N.au.map aV.pv,N.runs.map dL.pv,N.bj.map bB.pv,N.paths.map Path.pv,N.aP.map aR.pv,N.bX,N.within,N.cap,q.src,q.dst,q.time,q.back,q.cB,q.walk,q.free,q.tw,q.cr,q.JA,l.map bp.pv,ub l k,o,())) o (by omega);grind [aj]
def LM(l:List bp)(i:Int):Int:=match(Ig l l.length)[i.toNat]? with|some k=>k|none=>0
def vc(l:List bp)(t:oG):Fact:=⟨8,LM l t.fst,t.prod,t.jU,t.lst⟩
theorem Te(oS:List oG)(ht:oS.length≤1000)(qk:∀t∈oS,0≤t.fst∧t.fst<((Ig l l.length).length:Int))(o:List Fact)(ho:o.length≤1000):bk.run (lf bk) (tSt T N q l (oS.map oG.pv) 0 (ub l l.length) (o.map Fact.pv))=some (.aO [.rs 5 ((o++oS.map (vc l)).map Fact.pv),.int .i64 0]):=by
 refine ba (fun k=>tSt T N q l (oS.map oG.pv) k (ub l l.length) ((o++(oS.take k).map (vc l)).map Fact.pv)) oS.length (fun k hk rec=>?_) (fun rec=>?_) (by unfold rounds;omega) (by simp)
 ·have hm:=qk _ (aki hk);have bZ:oS[k].fst.toNat<(Ig l l.length).length:=by omega
  have hix:(ub l l.length)[oS[k].fst.toNat]?=some (.int .i64 (LM l oS[k].fst)):=by unfold ub LM;grind
  have hra:an oS[k].fst (ub l l.length).length:=by unfold ub;rw[BY];exact⟨hm.1,hm.2⟩
  have t0:∀t:oG,Ab.asInt .i64 (cell t.pv 0)=some t.prod:=fun t=>rfl;have t1:∀t:oG,Ab.asInt .i64 (cell t.pv 1)=some t.fst:=fun t=>rfl;have t2:∀t:oG,Ab.asInt .i64 (cell t.pv 2)=some t.lst:=fun t=>rfl;have t3:∀t:oG,Ab.asInt .i64 (cell t.pv 3)=some t.jU:=fun t=>rfl;have hl2:((o++(oS.take k).map (vc l)).map Fact.pv).length≤100000:=by simp;omega
  rw[show(o++(oS.take (k+1)).map (vc l)).map Fact.pv=(o++(oS.take k).map (vc l)).map Fact.pv++[(vc l oS[k]).pv] by rw[akr hk];grind];generalize (o++(oS.take k).map (vc l)).map Fact.pv=oo at*;unfold lf tSt;dsimp only;rw[AI (by simp;omega),bS oG.pv oS k hk];simp only[U,t0,t1,t2,t3,AI hra,hix,Wo,aI,q8 hl2,aj (show k<9223372036854775807 by omega)];rfl
 simp[lf,tSt,IS,alg]
theorem Tf(tt:T.Ok)(hT:Jx T)(hV:tZ T)(h:Nh N q l)(oS:List oG)(ht:oS.length≤1000)(qk:∀t∈oS,0≤t.fst∧t.fst<((Ig l l.length).length:Int)):bk.run (fN bk) (fSt T N q l (oS.map oG.pv) 0 [] [])=if l.any (tF T N)=true then some FX else some (.aO [.rs 5 ((Bz T N q l l.length++oS.map (vc l)).map Fact.pv),.int .i64 0]):=by
 have hf:=h.few;have hlen:=BA (T:=T) (N:=N) (q:=q) (l:=l) l.length;refine(br (fun k=>fSt T N q l (oS.map oG.pv) k (ub l k) ((Bz T N q l k).map Fact.pv)) l.length (fun k=>(l[k]?).bind fun x=>if tF T N x=true then some (some FX)else none) (fin:=some (.aO [.rs 5 ((Bz T N q l l.length++oS.map (vc l)).map Fact.pv),.int .i64 0])) (fun k hk rec=>?_) (fun rec=>?_) (by unfold rounds;omega) rfl).trans ?_
 ·simp_all[Wn,cN,U,Oc]
 ·rw[←Te (T:=T) (N:=N) (q:=q) oS ht qk _ (show(Bz T N q l l.length).length≤1000 by omega)];unfold fN fSt;dsimp only;rw[IS (by simp)];rfl
 ·have e:((List.range l.length).findSome? fun k=>(l[k]?).bind fun x=>if tF T N x=true then some (some FX)else none)=if l.any (tF T N)=true then some (some FX)else none:=by
   have:=CB (tF T N) (fun _=>some FX) l;rw[this];cases hh:l.any (tF T N)with
   |true=>
    obtain⟨x,hx,hb⟩:=als.1 hh;cases hfd:l.find? (tF T N)with
    |none=>simp_all
    |some y=>rfl
   |false=>simp_all
  rw[e];split<;>rfl
end
theorem LN{A:Type}[DecidableEq A]{a b:List A}(hl:a.length=b.length):(if(List.range a.length).any (fun k=> !decide (a[k]?=b[k]?))=true then some (PV.bool false)else some (PV.bool true))=some (PV.bool (decide (a=b))):=by
 by_cases h:a=b
 ·subst h;simp
 ·rw[AI]
  ·simp[h]
  ·rw[als];refine akY fun hn=>h (aks fun k=>?_);grind
theorem aax(x y:oG):cu [cell x.pv 0,cell x.pv 1,cell x.pv 2,cell x.pv 3] [cell y.pv 0,cell y.pv 1,cell y.pv 2,cell y.pv 3]=decide (x=y):=by obtain⟨a1,a2,a3,a4⟩:=x;obtain⟨b1,b2,b3,b4⟩:=y;simp[cell,oG.pv,PV.cells,cu,Ab.peq];rfl
theorem aay(x:oG):lK (Kd.int .i64::[].append (Kd.int .i64::[].append (Kd.int .i64::[].append (Kd.int .i64::[].append [])))) [cell x.pv 0,cell x.pv 1,cell x.pv 2,cell x.pv 3]=true:=rfl
theorem Tg(a b:List oG)(ha:a.length≤maxLen):gh [.rs 4 (a.map oG.pv),.rs 4 (b.map oG.pv)]=some (.bool (decide (a=b))):=by
 have hm:=aT;have hr:=bw;simp only[gh,lQ,aS,U,BY,pW];by_cases hl:a.length=b.length
 ·rw[IS (by simp[hl])];refine(sG (fun k=>(a.map oG.pv,b.map oG.pv,(a.length:Int),(k:Int),())) a.length (fun k=> !decide (a[k]?=b[k]?)) (no:=some (.bool false)) (fin:=some (.bool true)) (fun k hk rec=>?_) (fun rec=>?_) (by omega) rfl).trans (LN hl)
  ·unfold jj;dsimp only;rw[AI (by simp;omega),bS oG.pv a k hk,bS oG.pv b k (by omega),aj (by omega)];simp only[U,aay,aax,anj,Ko,cN hk,cN (show k<b.length by omega),cO]
  simp[jj,IS]
 ·rw[AI (by simp;omega)];congr 2;grind
def FY(T:ak):Int:=match ca ((List.range 10).findSome? (tG T)) (some (vO 0 0 0))with
 |some (.aO [_,_,.int _ e])=>e
 |_=>0
theorem Th(T:ak):∃p i,ca ((List.range 10).findSome? (tG T)) (some (vO 0 0 0))=some (vO p i (FY T))∧(FY T=0→tZ T):=by
 obtain⟨p,i,e,hw,hv⟩:=LO T;have he:FY T=e:=by unfold FY;rw[hw];rfl
 grind
def okB(N:ab)(q:gy)(O:AW):Bool:=cu [.int .i64 (Ti q O.cp),.int .i64 (Tj q O.cp),.int .i64 (fX N O.cp []).length,.int .i64 (Hc N.cap (jV N O.cp).sum),.int .i64 (Oh O.cp 0)] [.int .i64 O.dep,.int .i64 O.arr,.int .i64 O.cB,.int .i64 O.JE,.int .i64 O.walk]&&decide ((jV N O.cp).l=O.oS)
noncomputable def nG(T:ak)(N:ab)(q:gy)(O:AW):List Fact×Int:=
 if FY T≠0 then([],FY T)else if(nH N q O.cp).2≠0 then([],(nH N q O.cp).2)
 else if okB N q O=false then([],1)else if O.cp.any (tF T N)=true then([],16)
 else(Bz T N q O.cp O.cp.length++O.oS.map (vc O.cp),0)
def JF(R:List Fact×Int):PV:=.aO [.rs 5 (R.1.map Fact.pv),.int .i64 R.2]
section
variable {T:ak} {N:ab} {q:gy} {l:List bp}
theorem Oi(hN:N.Ok)(hp:N.paths.length≤4096)(Ii:l.length≤12)(hz:(nH N q l).2=0):Nh N q l∧tH N l=0:=by
 unfold nH at hz;split at hz
 ·rename_i hc;obtain⟨hv,hq⟩:=Wp hN hp hc;by_cases h0:l.length=0
  ·have hl:l=[]:=akg h0;subst hl;exact⟨⟨hv,⟨fun k h=>by omega,fun k h=>by omega,fun k h=>by omega⟩,fun k h=>by rfl,Ii⟩,rfl⟩
  ·rw[IS h0]at hz;split at hz
   ·rename_i hf;split at hz
    ·rename_i he;refine⟨⟨hv,QA hf,FZ.1 hf,Ii⟩,?_⟩;grind [Oj,List.getElem?_eq_getElem]
    omega
   omega
 omega
theorem Ol(out:List Rd)(x:bp):(rdStep N out x).length=out.length+if l0 x=true then 1 else 0:=by unfold rdStep l0;grind
theorem F0:∀(l:List bp)(out:List Rd),(fX N l out).length=out.length+l.countP l0
 |[],out=>by rfl
 |x::r,out=>by rw[fX,F0 r,Ol,amh];omega
theorem QB(l:List bp):∀k,k≤l.length→(Ig l k).length=(l.take k).countP l0
 |0,_=>by rfl
 |k+1,hk=>by rw[Bx l (by omega),ako,QB l k (by omega),akr (by omega),List.countP_append,amh,List.countP_nil];split<;>simp
theorem Tk(l:List bp):(Ig l l.length).length=(fX N l []).length:=by simp[QB,akk,alg,F0]
theorem Om(h:tH N l=0):(jV N l).l.length≤8∧∀t∈(jV N l).l,0≤t.fst∧t.fst<((Ig l l.length).length:Int):=by
 unfold tH at h;split at h
 ·omega
 ·rename_i h8;split at h
  ·rename_i ho;refine⟨?_,fun t ht=>?_⟩
   ·grind [Tl,fX,jV]
   ·rw[Tk (N:=N)];exact Wq ho t ht
  omega
theorem F1{O:AW}(tt:T.Ok)(hT:Jx T)(hN:N.Ok)(hp:N.paths.length≤4096)(hO:O.Ok)(Ii:O.cp.length≤12):dq [T.pv,N.pv,q.pv,O.pv]=some (JF (nG T N q O)):=by
 obtain⟨p,i,hw,hv⟩:=Th T;have hwp:=On T tt hT.small;rw[hw]at hwp;have hl6:O.cp.length≤1000000:=by omega
 have hcp:=Wr (q:=q) hN hp hl6 hO.cp.2;simp only[dq,pF,ttA,tt0,tt1,tt2,tt3,tt4,tt5,tt6,tt7,tt8,tt9,S6,S7,S8,wK,wL,wM,wN,wO,wP,wQ,wR,wS,wT,Oo,Oq,Ot,Ou,Ov,Ow,Ox,Oy,Oz,OA,OB,aaz,aaA,aaB,aaC,aaD,aaE,aaF,aaG,U,ttE,DX,Ws,jF,aS,aI,hwp,vO,t3,ajc,aka,hcp,t2,Wa T hT,cD,Ko];unfold nG;by_cases h1:FY T=0
 ·rw[IS (show¬(FY T !=0)=true by simp[h1]),IS (show¬FY T≠0 by omega)];by_cases h2:(nH N q O.cp).2=0
  ·rw[IS (show¬((nH N q O.cp).2 !=0)=true by simp[h2]),IS (show¬(nH N q O.cp).2≠0 by omega)];obtain⟨hJ,K7⟩:=Oi (q:=q) hN hp Ii h2;have hce:=QC (q:=q) hJ.val hJ.FU hl6 hO.cp.2;have oF:sH N q O.cp=.aO [.agg [.int .i64 (Ti q O.cp),.int .i64 (Tj q O.cp),.int .i64 (fX N O.cp []).length,.int .i64 (Hc N.cap (jV N O.cp).sum),.int .i64 (Oh O.cp 0)],.rs 4 ((jV N O.cp).l.map oG.pv),.int .i64 0]:=by unfold sH;rw[AI K7]
   rw[hce,oF];obtain⟨ht8,qk⟩:=Om K7;have g5':∀a b c d e,[cell (PV.agg [a,b,c,d,e]) 0,cell (PV.agg [a,b,c,d,e]) 1,cell (PV.agg [a,b,c,d,e]) 2,cell (PV.agg [a,b,c,d,e]) 3,cell (PV.agg [a,b,c,d,e]) 4]=[a,b,c,d,e]:=fun a b c d e=>rfl;have c5:∀a b c d e:Int,lK (Kd.int .i64::[].append (Kd.int .i64::[].append (Kd.int .i64::[].append (Kd.int .i64::[].append (Kd.int .i64::[].append []))))) [.int .i64 a,.int .i64 b,.int .i64 c,.int .i64 d,.int .i64 e]=true:=fun a b c d e=>rfl;simp only[U,t3,ajc,aka,g5,aS,aI,g5',c5,anj,Ko,Tg _ _ (show(jV N O.cp).l.length≤maxLen by have:maxLen=9223372036854775807:=rfl;omega),aB,bf];rw[show((0:Int) !=0)=false from rfl];rw[alj];have aiD:(!cu [PV.int .i64 (Ti q O.cp),.int .i64 (Tj q O.cp),.int .i64 (fX N O.cp []).length,.int .i64 (Hc N.cap (jV N O.cp).sum),.int .i64 (Oh O.cp 0)] [.int .i64 O.dep,.int .i64 O.arr,.int .i64 O.cB,.int .i64 O.JE,.int .i64 O.walk]|| !decide ((jV N O.cp).l=O.oS))= !okB N q O:=by unfold okB;simp
   rw[aiD];by_cases h3:okB N q O=false
   ·rw[AI (by simp[h3]),AI h3];rfl
   ·have h3':okB N q O=true:=by simpa using h3
    rw[IS (by simp[h3']),IS h3];have Uz:(jV N O.cp).l=O.oS:=by simp_all
    have hL:=Tf (q:=q) tt hT (hv h1) hJ (jV N O.cp).l (by omega) qk;rw[Uz]at hL⊢;refine hL.trans ?_;split<;>rfl
  ·rw[AI (show((nH N q O.cp).2 !=0)=true by simpa using h2),AI (show(nH N q O.cp).2≠0 from h2)];rfl
 ·rw[AI (show(FY T !=0)=true by simpa using h1),AI (show FY T≠0 from h1)];rfl
end
section
variable {T:ak} {N:ab} {q:gy} {l:List bp}
variable{X:Type}
def rT(T:ak)(x:X):=(T.stops.map Stop.pv,T.au.map aV.pv,T.eR.map qd.pv,T.kZ.map tg.pv,T.ag.map bK.pv,T.ck.map bg.pv,T.tv.map k9.pv,T.lJ.map iS.pv,T.paths.map Path.pv,T.aP.map aR.pv,T.bX,T.within,T.cap,x)
def rN(N:ab)(q:gy)(x:X):=(N.stops.map Stop.pv,N.au.map aV.pv,N.runs.map dL.pv,N.bj.map bB.pv,N.paths.map Path.pv,N.aP.map aR.pv,N.bX,N.within,N.cap,q.src,q.dst,q.time,q.back,q.cB,q.walk,q.free,q.tw,q.cr,q.JA,x)
def rO(O:AW)(x:X):=(O.cp.map bp.pv,O.dep,O.arr,O.cB,O.JE,O.walk,O.oS.map oG.pv,x)
end
end Go.Ab.Tt
