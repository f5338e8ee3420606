import Derived.Test.YtmbihgjlollbeaaGreatFbP2
namespace Go.Ab.Tt
set_option maxRecDepth 100000
set_option linter.all false
structure Dv where
 ok:Bool
 sum:Int
 l:List iZ
def dz:Dv:=⟨false,0,[]⟩
def wiB(a b d:Int):Bool:=decide (b≤a)||decide (IntKind.u64.wrap (IntKind.u64.wrap b-IntKind.u64.wrap a)≤IntKind.u64.wrap d)
theorem Ve(a b d:Int):sQ [.int .i64 a,.int .i64 b,.int .i64 d]=some (.bool (wiB a b d)):=by simp[sQ,Dh,aI,U,ay,wiB]
theorem Vf(a b d:Int):gF [.int .i64 a,.int .i64 b,.int .i64 d]=some (.bool (wiB a b d)):=by grind [gF,vl,aI,U,wiB]
def tkP(d w:Int)(p:aM)(rs:List Rd):Nat→Int
 |0=>p.jL
 |i+1=>match rs[i]?,rs[i+1]? with
  |some a,some b=>if wiB a.arr b.dep w=true then(if IntKind.i64.wrap (p.jL-d)>0 then IntKind.i64.wrap (p.jL-d)else 0)else p.jL
  |_,_=>p.jL
variable{i:Nat}
theorem aaN(l:List aM)(d w c:Int)(p:aM){rs:List Rd}(hi:i<rs.length)(hn:rs.length≤8):kA [dp l d w c,p.pv,.rs 4 (rs.map Rd.pv),.int .i64 (i:Int)]=some (.int .i64 (tkP d w p rs i)):=by
 simp only[kA,si,Fi,Fj,Fk,Fl,Fm,ahl,W6,W7,W8,W9,Xa,Xb,aS,aI,U];cases i with
 |zero=>rfl
 |succ i=>rw[atD (show((i+1:Nat):Int)>0 by omega),hZ i (by omega),bp Rd.pv rs i (by omega),bp Rd.pv rs (i+1) hi];simp only[cond_true,U,ahk,anc,Ve,aB,tkP,cN (show i<rs.length by omega),cN hi];grind
theorem Vg(l:List aM)(d w c:Int)(p:aM){rs:List Rd}(hi:i<rs.length)(hn:rs.length≤8):je [dp l d w c,p.pv,.rs 4 (rs.map Rd.pv),.int .i64 (i:Int)]=some (.int .i64 (tkP d w p rs i)):=by
 simp only[je,qy,Fi,Fj,Fk,Fl,Fm,ahl,W6,W7,W8,W9,Xa,Xb,aS,aI,U];cases i with
 |zero=>rfl
 |succ i=>rw[atD (show((i+1:Nat):Int)>0 by omega),hZ i (by omega),bp Rd.pv rs i (by omega),bp Rd.pv rs (i+1) hi];simp only[cond_true,U,ahk,anc,Vf,aB,tkP,cN (show i<rs.length by omega),cN hi];grind
def nwD(rs:List Rd)(d w:Int)(x:aM)(i k p:Nat)(nx:Dv):Dv:=⟨true,IntKind.i64.wrap (tkP d w x rs i+nx.sum),⟨p,i,k,tkP d w x rs i⟩::nx.l⟩
def btr(n cur:Dv):Bool:= !cur.ok||decide (n.sum<cur.sum)||(decide (n.sum=cur.sum)&&decide (n.l.length<cur.l.length))
def Sj(rs:List Rd)(d w:Int)(x:aM)(i k p:Nat)(nx cur:Dv):Dv:=if nx.ok=true then if Sg x (cut rs i k)=true then if btr (nwD rs d w x i k p nx) cur=true then nwD rs d w x i k p nx else cur else cur else cur
def Co(P:List aM)(rs:List Rd)(d w:Int)(i k:Nat)(nx cur:Dv):Nat→Dv
 |0=>cur
 |p+1=>match P[p]? with
  |some x=>Sj rs d w x i k p nx (Co P rs d w i k nx cur p)
  |none=>Co P rs d w i k nx cur p
def put(A:Nat→Dv)(i:Nat)(s:Dv):Nat→Dv:=fun j=>if j=i then s else A j
def EU(P:List aM)(rs:List Rd)(d w:Int)(A:Nat→Dv)(i:Nat):Nat→Dv
 |0=>A i
 |t+1=>Co P rs d w i (i+t) (A (i+t+1)) (EU P rs d w A i t) P.length
def Ho(P:List aM)(rs:List Rd)(d w:Int):Nat→Nat→Dv
 |0=>put (fun _=>dz) rs.length ⟨true,0,[]⟩
 |m+1=>put (Ho P rs d w m) (rs.length-(m+1)) (EU P rs d w (Ho P rs d w m) (rs.length-(m+1)) (m+1))
def yF(P:List aM)(rs:List Rd)(d w:Int):Dv:=Ho P rs d w rs.length 0
theorem Sk(A:Nat→Dv)(i:Nat):put A i (A i)=A:=by funext j;unfold put;simp_all
theorem wS{A:Nat→Dv}{j:Nat}{s:Dv}(h:j≠i):put A i s j=A j:=IT h
theorem put_eq{A:Nat→Dv}{s:Dv}:put A i s i=s:=IN rfl
structure Hq(n:Nat)(A:Nat→Dv)(i:Nat)(s:Dv):Prop where
 len:s.l.length≤n-i
 on:s.ok=true→∃(k p:Nat)(v:Int),i≤k∧k<n∧(A (k+1)).ok=true∧s.l=⟨p,i,k,v⟩::(A (k+1)).l
structure B4(n:Nat)(A:Nat→Dv)(i:Nat):Prop where
 hi:∀j,i≤j→j<n→Hq n A j (A j)
 top:A n=⟨true,0,[]⟩
 lo:∀j,j<i→A j=dz
section
variable {P:List aM} {rs:List Rd} {d w:Int}
theorem B4.len{n i:Nat}{A:Nat→Dv}(h:B4 n A i){j:Nat}(h1:i≤j)(h2:j≤n):(A j).l.length≤n-j:=by
 by_cases e:j=n
 ·subst e;rw[h.top];simp
 ·exact(h.hi j h1 (by omega)).len
theorem ajH{n i k p:Nat}{A:Nat→Dv}{x:aM}{cur:Dv}(h:B4 n A (i+1))(hc:Hq n A i cur)(h1:i≤k)(h2:k<n):Hq n A i (Sj rs d w x i k p (A (k+1)) cur):=by
 unfold Sj;split
 ·rename_i hn;split
  ·split
   ·have:=h.len (j:=k+1) (by omega) (by omega);exact⟨by grind [nwD,List.length_cons],fun _=>⟨k,p,_,h1,h2,hn,rfl⟩⟩
   omega
  omega
 omega
theorem P4{n i k:Nat}{A:Nat→Dv}{cur:Dv}(h:B4 n A (i+1))(hc:Hq n A i cur)(h1:i≤k)(h2:k<n):∀p,Hq n A i (Co P rs d w i k (A (k+1)) cur p)
 |0=>hc
 |p+1=>by
  unfold Co;split
  ·exact ajH h (P4 h hc h1 h2 p) h1 h2
  ·exact P4 h hc h1 h2 p
theorem Me{i k:Nat}{nx cur:Dv}(h:nx.ok=false):∀p,Co P rs d w i k nx cur p=cur
 |0=>rfl
 |p+1=>by
  unfold Co;split
  ·simp_all[Sj,IT,decide,Me]
  ·exact Me h p
theorem Xf{n i:Nat}{A:Nat→Dv}(h:B4 n A (i+1)):∀t,i+t≤n→Hq n A i (EU P rs d w A i t)
 |0,_=>by unfold EU;rw[h.lo i (by omega)];exact⟨by simp[dz],fun h=>by cases h⟩
 |t+1,ht=>by unfold EU;exact P4 h (Xf h t (by omega)) (by omega) (by omega) _
theorem ajI{n i:Nat}{A:Nat→Dv}{s:Dv}(h:B4 n A (i+1))(hs:Hq n A i s)(hi:i<n):B4 n (put A i s) i:=by
 refine⟨fun j h1 h2=>?_,by rw[wS (by omega)];exact h.top,fun j hj=>by rw[wS (by omega)];exact h.lo j (by omega)⟩;have key:∀s',Hq n A j s'→Hq n (put A i s) j s':=fun s' hs'=>⟨hs'.len,fun ho=>by obtain⟨k,p,v,a1,a2,a3,a4⟩:=hs'.on ho;exact⟨k,p,v,a1,a2,by rw[wS (by omega)];exact a3,by rw[wS (by omega)];exact a4⟩⟩;by_cases e:j=i
 ·subst e;rw[put_eq];exact key _ hs
 ·rw[wS e];exact key _ (h.hi j (by omega) h2)
theorem EE:∀m,m≤rs.length→B4 rs.length (Ho P rs d w m) (rs.length-m)
 |0,_=>⟨fun j h1 h2=>by omega,put_eq,fun j hj=>wS (by omega)⟩
 |m+1,hm=>by have h:=EE m (by omega);rw[show rs.length-m=rs.length-(m+1)+1 by omega]at h;exact ajI h (Xf h (m+1) (by omega)) (by omega)
theorem adN{n:Nat}{A:Nat→Dv}(h:B4 n A 0):∀m i,n-i≤m→i≤n→(A i).ok=true→∀t∈(A i).l,0≤t.fst∧t.fst<n
 |0,i,h1,h2,_=>by
  have:i=n:=by omega
  subst this;rw[h.top];simp
 |m+1,i,h1,h2,ho=>by
  by_cases e:i=n
  ·subst e;rw[h.top];simp
  ·obtain⟨k,p,v,a1,a2,a3,a4⟩:=(h.hi i (by omega) (by omega)).on ho;rw[a4];intro t ht;rcases asg.1 ht with rfl|ht
   ·grind
   ·exact adN h m (k+1) (by omega) (by omega) a3 t ht
theorem adb(ho:(yF P rs d w).ok=true):∀t∈(yF P rs d w).l,0≤t.fst∧t.fst<rs.length:=by have h:=EE (P:=P) (rs:=rs) (d:=d) (w:=w) rs.length (by omega);rw[aui]at h;exact adN h rs.length 0 (by omega) (by omega) ho
theorem aay:(yF P rs d w).l.length≤rs.length:=by have h:=EE (P:=P) (rs:=rs) (d:=d) (w:=w) rs.length (by omega);rw[aui]at h;have:=h.len (j:=0) (by omega) (by omega);simpa[yF]using this
end
def Hd(c s:Int):Int:=if c>0∧s>c then c else s
theorem aaO(l:List aM)(d w c s:Int):sR [dp l d w c,.int .i64 s]=some (.int .i64 (Hd c s)):=by simp only[sR,Di,Fi,Fj,Fk,Fl,Fm,aI,U,aJ,Hd];grind
theorem Vh(l:List aM)(d w c s:Int):qz [dp l d w c,.int .i64 s]=some (.int .i64 (Hd c s)):=by simp only[qz,Bx,Fi,Fj,Fk,Fl,Fm,aI,U,Hd];grind
structure Rs where
 ok:Bool
 sum:Int
 cnt:Int
 p:Int
 f:Int
 l:Int
 jL:Int
def Rs.pv(x:Rs):PV:=.agg [.bool x.ok,.int .i64 x.sum,.int .i64 x.cnt,.int .i64 x.p,.int .i64 x.f,.int .i64 x.l,.int .i64 x.jL]
theorem rsA(x:Rs):asAgg 7 x.pv=some ():=rfl
theorem rs0(x:Rs):Ab.asBool (cell x.pv 0)=some x.ok:=rfl
theorem rs1(x:Rs):Ab.asInt .i64 (cell x.pv 1)=some x.sum:=rfl
theorem rs2(x:Rs):Ab.asInt .i64 (cell x.pv 2)=some x.cnt:=rfl
theorem rs5(x:Rs):Ab.asInt .i64 (cell x.pv 5)=some x.l:=rfl
theorem Nc(x:Rs):PV.agg [cell x.pv 0,cell x.pv 1,cell x.pv 2,cell x.pv 3,cell x.pv 4,cell x.pv 5,cell x.pv 6]=x.pv:=rfl
theorem aaP(x:Rs)(s c:Int):kB [x.pv,.int .i64 s,.int .i64 c]=some (.bool (!x.ok||decide (s<x.sum)||(decide (s=x.sum)&&decide (c<x.cnt)))):=by have h3:Ab.asInt .i64 (cell x.pv 3)=some x.p:=rfl;have h4:Ab.asInt .i64 (cell x.pv 4)=some x.f:=rfl;have h6:Ab.asInt .i64 (cell x.pv 6)=some x.jL:=rfl;simp only[kB,sj,rsA,rs0,rs1,rs2,h3,h4,rs5,h6,aI,U,ay,aJ,bX]
def rH(s:Dv):Rs:=match s.l with
 |[]=>⟨s.ok,s.sum,0,0,0,0,0⟩
 |t::r=>⟨s.ok,s.sum,((r.length+1:Nat):Int),t.prod,t.fst,t.lst,t.jL⟩
theorem LD(s:Dv):(rH s).ok=s.ok:=by unfold rH;split<;>rfl
theorem Xg(s:Dv):(rH s).sum=s.sum:=by unfold rH;split<;>rfl
theorem Xh(s:Dv):(rH s).cnt=(s.l.length:Int):=by unfold rH;grind
def l7(A:Nat→Dv):List Rs:=(List.range 9).map fun j=>rH (A j)
theorem Dj(A:Nat→Dv){j:Nat}(h:j<9):((l7 A).map Rs.pv)[j]?=some (rH (A j)).pv:=by unfold l7;simp_all
theorem Sl(A:Nat→Dv)(i:Nat)(s:Dv):((l7 A).map Rs.pv).set i (rH s).pv=(l7 (put A i s)).map Rs.pv:=by
 apply asw;intro j;unfold l7;rw[asN];by_cases h:j<9
 ·rw[AT,AT,AT,AT,as2 h];by_cases e:i=j
  ·subst e;rw[IN rfl,IN (by simp;omega)];simp[put_eq]
  simp_all[IT,wS,Ne.symm]
 simp_all
theorem Sn(A:Nat→Dv):(l7 A).length=9:=by rfl
section
variable {P:List aM} {rs:List Rd} {d w c:Int}
theorem aaQ(hP:∀p∈P,POk p)(Vi:P.length≤16)(hn:rs.length≤8)(ho:∀y∈rs,IC y){i k:Nat}(hik:i≤k)(hk:k<rs.length)(T4:List PV)(A:Nat→Dv)(cur:Dv)(hy:(A (k+1)).l.length≤8)(qA:ajJ→Option PV):ba.run (qB ba qA) ((rs.length:Int),(i:Int),(k:Int),((P.map aM.pv).length:Int),0,P.map aM.pv,d,w,c,T4,(l7 (put A i cur)).map Rs.pv,rs.map Rd.pv,())=qA ((rs.length:Int),(i:Int),((k+1:Nat):Int),P.map aM.pv,d,w,c,T4,(l7 (put A i (Co P rs d w i k (A (k+1)) cur P.length))).map Rs.pv,rs.map Rd.pv,()):=by
 have aqv:List.drop i (List.take (k+1) (rs.map Rd.pv))=(cut rs i k).map Rd.pv:=by simp[cut,List.map_drop,at4]
 refine bf (fun p=>((rs.length:Int),(i:Int),(k:Int),((P.map aM.pv).length:Int),(p:Int),P.map aM.pv,d,w,c,T4,(l7 (put A i (Co P rs d w i k (A (k+1)) cur p))).map Rs.pv,rs.map Rd.pv,())) P.length (fun p hp rec=>?_) (fun rec=>?_) (by unfold rounds;omega) rfl
 ·have kM:∀m:Nat,m<9→al (m:Int) 9∧0<7:=fun m hm=>by unfold al;omega
  have Nl:IntKind.i64.wrap ((k:Int)+1)=((k+1:Nat):Int):=ab (by omega);have hw2:IntKind.i64.wrap ((p:Int)+1)=((p+1:Nat):Int):=ab (by omega);generalize hx:Co P rs d w i k (A (k+1)) cur p=x;have hu:Co P rs d w i k (A (k+1)) cur (p+1)=Sj rs d w P[p] i k p (A (k+1)) x:=by rw[Co,cN hp,hx]
  rw[hu];have Um:=Dj (put A i x) (show k+1<9 by omega);rw[wS (show k+1≠i by omega)]at Um;have TH:=Dj (put A i x) (show i<9 by omega);rw[put_eq]at TH;have rU:∀s,((l7 (put A i x)).map Rs.pv).set i (rH s).pv=(l7 (put A i s)).map Rs.pv:=fun s=>by rw[Sl];congr 2;funext j;unfold put;split<;>rfl
  generalize U8:A (k+1)=y at*;have hcn:IntKind.i64.wrap ((rH y).cnt+1)=((y.l.length+1:Nat):Int):=by grind [Xh,ab]
  unfold qB;dsimp only;rw[IN (by simp;omega),Nl,hw2,IN (kM (k+1) (by omega)),asc,ato,Um,bp aM.pv P p hp];simp only[U,rs0,ang,asc,ato,aqv,Vd (hP _ (ar9 hp)) hik hk hn ho,aB,Mc,Um,TH,rs1,rs2,Nc,LD,aaN P d w c P[p] (show i<rs.length by omega) hn,aI,aaP,hcn];rw[IN (show 0≤(i:Int)∧(i:Int)≤((k+1:Nat):Int)∧((k+1:Nat):Int)≤((rs.map Rd.pv).length:Int)∧True∧4≠0 by grind)];simp only[IN (kM (k+1) (by omega)),IN (kM i (by omega)),Xg,Xh];unfold Sj;by_cases hyb:y.ok=true
  ·rw[IN hyb,IN hyb];by_cases hcb:Sg P[p] (cut rs i k)=true
   ·rw[IT (by simp[hcb]),IN hcb];have hb:(!x.ok||decide (IntKind.i64.wrap (tkP d w P[p] rs i+y.sum)<x.sum)||(decide (IntKind.i64.wrap (tkP d w P[p] rs i+y.sum)=x.sum)&&decide (((y.l.length+1:Nat):Int)<(x.l.length:Int))))=btr (nwD rs d w P[p] i k p y) x:=by grind [btr,nwD,List.length_cons,Int.ofNat_lt]
    rw[hb];by_cases hbt:btr (nwD rs d w P[p] i k p y) x=true
    ·rw[IN hbt,IN hbt,←rU (nwD rs d w P[p] i k p y)];rfl
    simp_all
   simp_all
  simp_all
 ·unfold qB;dsimp only;rw[IT (by simp),ab (by omega)]
theorem Vj(hP:∀p∈P,POk p)(Vi:P.length≤16)(hn:rs.length≤8)(ho:∀y∈rs,IC y){i:Nat}(hi:i<rs.length)(T4:List PV)(A:Nat→Dv)(hA:B4 rs.length A (i+1))(P5:ajK→Option PV):ba.run (qC ba P5) ((rs.length:Int),(i:Int),(i:Int),P.map aM.pv,d,w,c,T4,(l7 A).map Rs.pv,rs.map Rd.pv,())=P5 ((rs.length:Int),IntKind.i64.wrap ((i:Int)-1),P.map aM.pv,d,w,c,T4,(l7 (put A i (EU P rs d w A i (rs.length-i)))).map Rs.pv,rs.map Rd.pv,()):=by
 refine bf (fun t=>((rs.length:Int),(i:Int),((i+t:Nat):Int),P.map aM.pv,d,w,c,T4,(l7 (put A i (EU P rs d w A i t))).map Rs.pv,rs.map Rd.pv,())) (rs.length-i) (fun t ht rec=>?_) (fun rec=>?_) (by unfold rounds;omega) (by simp[EU,Sk])
 ·unfold qC;dsimp only;rw[IN (by simp;omega)];have hl:=hA.len (j:=i+t+1) (by omega) (by omega);exact aaQ hP Vi hn ho (by omega) (by omega) T4 A _ (by omega) rec
 ·unfold qC;grind
theorem aqw:fX 7 9 (PV.agg [.bool false,.int .i64 0,.int .i64 0,.int .i64 0,.int .i64 0,.int .i64 0,.int .i64 0,.bool false,.int .i64 0,.int .i64 0,.int .i64 0,.int .i64 0,.int .i64 0,.int .i64 0,.bool false,.int .i64 0,.int .i64 0,.int .i64 0,.int .i64 0,.int .i64 0,.int .i64 0,.bool false,.int .i64 0,.int .i64 0,.int .i64 0,.int .i64 0,.int .i64 0,.int .i64 0,.bool false,.int .i64 0,.int .i64 0,.int .i64 0,.int .i64 0,.int .i64 0,.int .i64 0,.bool false,.int .i64 0,.int .i64 0,.int .i64 0,.int .i64 0,.int .i64 0,.int .i64 0,.bool false,.int .i64 0,.int .i64 0,.int .i64 0,.int .i64 0,.int .i64 0,.int .i64 0,.bool false,.int .i64 0,.int .i64 0,.int .i64 0,.int .i64 0,.int .i64 0,.int .i64 0,.bool false,.int .i64 0,.int .i64 0,.int .i64 0,.int .i64 0,.int .i64 0,.int .i64 0])=(l7 fun _=>dz).map Rs.pv:=rfl
theorem adO(T:List Rs):(gx 7 (T.map Rs.pv)).length=T.length*7:=by rw[H6,AI]
theorem IE:∀(T:List Rs)(i j:Nat)(x:Rs),T[i]?=some x→j<7→(gx 7 (T.map Rs.pv))[i*7+j]?=some (cell x.pv j)
 |[],i,j,x,h,_=>by simp at h
 |y::T,0,j,x,h,hj=>by
  simp only[asF,cO]at h;subst h;have e:gx 7 ((y::T).map Rs.pv)=aQ 7 y.pv++gx 7 (T.map Rs.pv):=rfl;rw[e,asY (by rw[bt];omega),eZ (show y.pv.cells.length=7 from rfl)];match j,hj with
  |0,_=>rfl
  |1,_=>rfl
  |2,_=>rfl
  |3,_=>rfl
  |4,_=>rfl
  |5,_=>rfl
  |6,_=>rfl
  |n+7,h=>omega
 |y::T,i+1,j,x,h,hj=>by have e:gx 7 ((y::T).map Rs.pv)=aQ 7 y.pv++gx 7 (T.map Rs.pv):=rfl;rw[e,as8 (by rw[bt];omega),bt,show(i+1)*7+j-7=i*7+j by omega];simp_all[IE]
theorem Vk(T:List Rs)(n:Nat)(hn:T.length=n):fX 7 n (.agg (gx 7 (T.map Rs.pv)))=T.map Rs.pv:=by
 apply asw;intro i;unfold fX;rw[AT,AT];by_cases hi:i<n
 ·obtain⟨x,hx⟩:∃x,T[i]?=some x:=⟨_,cN (by omega)⟩;rw[hx,as2 hi];simp only[No,cO];have hc:∀j,j<7→cell (.agg (gx 7 (T.map Rs.pv))) (i*7+j)=cell x.pv j:=fun j hj=>by show(gx 7 (T.map Rs.pv)).getD (i*7+j) .bad=_;rw[atV,IE T i j x hx hj];rfl
  show PV.agg [cell _ (i*7),cell _ (i*7+1),cell _ (i*7+2),cell _ (i*7+3),cell _ (i*7+4),cell _ (i*7+5),cell _ (i*7+6)]=_;have h0:=hc 0 (by omega);simp_all[ato,Nc]
 simp_all
theorem aaR(hP:∀p∈P,POk p)(Vi:P.length≤16)(hn:rs.length≤8)(ho:∀y∈rs,IC y):sS [dp P d w c,.rs 4 (rs.map Rd.pv)]=some (.agg (gx 7 ((l7 (Ho P rs d w rs.length)).map Rs.pv))):=by
 have kM:al (rs.length:Int) 9∧0<7:=by unfold al;omega
 have hz:=Dj (fun _=>dz) (show rs.length<9 by omega);simp only[sS,Dk,Fi,Fj,Fk,Fl,Fm,aS,U,AI];rw[IN kM,aqw,asc,ato,hz];simp only[U,over];have hs:((l7 fun _=>dz).map Rs.pv).set rs.length (PV.agg (PV.bool true::[cell (rH dz).pv 1,cell (rH dz).pv 2,cell (rH dz).pv 3,cell (rH dz).pv 4,cell (rH dz).pv 5,cell (rH dz).pv 6]))=(l7 (Ho P rs d w 0)).map Rs.pv:=Sl (fun _=>dz) rs.length ⟨true,0,[]⟩;rw[hs];refine bf (fun m=>((rs.length:Int),(rs.length:Int)-1-(m:Int),P.map aM.pv,d,w,c,(l7 fun _=>dz).map Rs.pv,(l7 (Ho P rs d w m)).map Rs.pv,rs.map Rd.pv,())) rs.length (fun m hm rec=>?_) (fun rec=>?_) (by unfold rounds;omega) (by grind [aZ])
 ·unfold wT;dsimp only;have hi:(rs.length:Int)-1-(m:Int)=((rs.length-(m+1):Nat):Int):=by omega
  have hT:=EE (P:=P) (rs:=rs) (d:=d) (w:=w) m (by omega);rw[show rs.length-m=rs.length-(m+1)+1 by omega]at hT;rw[IN (by simp;omega),hi,Vj hP Vi hn ho (show rs.length-(m+1)<rs.length by omega) _ _ hT rec,aZ (by omega) (by omega),show((rs.length-(m+1):Nat):Int)-1=(rs.length:Int)-1-((m+1:Nat):Int) by omega,show rs.length-(rs.length-(m+1))=m+1 by omega];rfl
 ·have hl:=Sn (Ho P rs d w rs.length);generalize l7 (Ho P rs d w rs.length)=T at*;unfold wT;dsimp only;have h63:(T.map Rs.pv).length*7=63:=by rw[AI,hl]
  have Tz:asAgg 63 (PV.agg (gx 7 (T.map Rs.pv)))=some ():=by simp_all[gx,Rs.pv,adO,asAgg,IN]
  rw[IT (by simp;omega),IN h63,Tz];simp only[U];have hlr:((l7 fun _=>dz).map Rs.pv).length=9:=by rfl
  simp_all[IN,decide,Vk]
end
section
variable {P:List aM} {rs:List Rd} {d w c:Int}
theorem Sq(hPo:P.length≤maxLen∧∀y∈P,y.Ok)(hf:(cJ P d w c).2=0)(hn:rs.length≤8):mZ [dp P d w c,.rs 4 (rs.map Rd.pv)]=some (.int .i64 0):=by simp only[mZ,Bz,Fi,Fj,Fk,Fl,Fm,aS,U,Mc,BA P d w c hPo,AI,hf];simp only[res,cg,aqP,ase,BY,U,abm,ahH,aI];grind
theorem P6(hn:rs.length≤8)(A:Nat→Dv)(hA:B4 rs.length A 0):∀(m i N:Nat)(out:List iZ),rs.length-i≤m→i≤rs.length→(A i).ok=true→out.length≤i→m<N→cE (kX ba) N (rs.map Rd.pv,(i:Int),P.map aM.pv,d,w,c,(l7 A).map Rs.pv,out.map iZ.pv,())=some (.aG [.int .i64 (Hd c (A 0).sum),.rs 4 ((out++(A i).l).map iZ.pv),.int .i64 0]):=by
 have tQ:∀(out:List iZ)rec,kX ba (rs.map Rd.pv,(rs.length:Int),P.map aM.pv,d,w,c,(l7 A).map Rs.pv,out.map iZ.pv,()) rec=some (.aG [.int .i64 (Hd c (A 0).sum),.rs 4 (out.map iZ.pv),.int .i64 0]):=by intro out rec;have TH:((l7 A).map Rs.pv)[(0:Int).toNat+0]?=some (rH (A 0)).pv:=Dj A (by omega);unfold kX;dsimp only;rw[IT (by simp),TH];simp[U,rs1,Mc,aaO,aI,Xg]
 intro m;induction m with
 |zero=>
  intro i N out h1 h2 h3 h4 hN;have:i=rs.length:=by omega
  subst this;cases N with
  |zero=>omega
  |succ N=>simp only[cE];rw[tQ,hA.top,atc]
 |succ m ih=>
  intro i N out h1 h2 h3 h4 hN;cases N with
  |zero=>omega
  |succ N=>
   simp only[cE];by_cases hi:i<rs.length
   ·obtain⟨k,p,v,k1,k2,k3,k4⟩:=(hA.hi i (by omega) hi).on h3;have TH:((l7 A).map Rs.pv)[(i:Int).toNat+0]?=some (rH (A i)).pv:=Dj A (by omega);have hl:(rH (A i)).l=(k:Int):=by unfold rH;rw[k4]
    have ht:PV.agg [cell (rH (A i)).pv 3,cell (rH (A i)).pv 4,cell (rH (A i)).pv 5,cell (rH (A i)).pv 6]=iZ.pv ⟨p,i,k,v⟩:=by unfold rH;rw[k4];rfl
    have kM:al (i:Int) 9∧0<7:=by unfold al;omega
    unfold kX;dsimp only;rw[IN (by simp;omega),IN kM,TH];simp only[U,rs5];rw[IN (by grind [List.length_append,List.length_singleton,List.length_map,ah]),IN kM,hl,ab (by omega),ht,show out.map iZ.pv++[iZ.pv ⟨p,i,k,v⟩]=(out++[(⟨p,i,k,v⟩:iZ)]).map iZ.pv by simp];refine(ih (k+1) N (out++[(⟨p,i,k,v⟩:iZ)]) (by omega) (by omega) k3 (by simp;omega) (by omega)).trans ?_;simp_all
   ·have:i=rs.length:=by omega
    subst this;rw[tQ,hA.top,atc]
theorem adP(hPo:P.length≤maxLen∧∀y∈P,y.Ok)(hf:(cJ P d w c).2=0)(hP:∀p∈P,POk p)(Vi:P.length≤16)(hn:rs.length≤8)(ho:∀y∈rs,IC y):kC [dp P d w c,.rs 4 (rs.map Rd.pv)]=if(yF P rs d w).ok=true then some (.aG [.int .i64 (Hd c (yF P rs d w).sum),.rs 4 ((yF P rs d w).l.map iZ.pv),.int .i64 0])else some (.aG [.int .i64 0,.rs 4 [],.int .i64 34]):=by
 have hdiv:=aaR (P:=P) (rs:=rs) (d:=d) (w:=w) (c:=c) hP Vi hn ho;have hTo:=EE (P:=P) (rs:=rs) (d:=d) (w:=w) rs.length (by omega);rw[aui]at hTo;unfold yF;generalize Ho P rs d w rs.length=A at*;have hl:=Sn A;have M6:cell (PV.agg (gx 7 ((l7 A).map Rs.pv))) 0=.bool (A 0).ok:=by have:=IE (l7 A) 0 0 (rH (A 0)) rfl (by omega);show(gx 7 ((l7 A).map Rs.pv)).getD 0 .bad=_;rw[atV,show(0:Nat)=0*7+0 by rfl,this];show PV.bool (rH (A 0)).ok=_;rw[LD]
 have Tz:asAgg 63 (PV.agg (gx 7 ((l7 A).map Rs.pv)))=some ():=by rfl
 have adQ:fX 7 9 (PV.agg (aQ 63 (PV.agg (gx 7 ((l7 A).map Rs.pv)))))=(l7 A).map Rs.pv:=by rfl
 have main:kC [dp P d w c,.rs 4 (rs.map Rd.pv)]=if(!(A 0).ok)=true then some (.aG [.int .i64 0,.rs 4 [],.int .i64 34])else ba.run (kX ba) (rs.map Rd.pv,0,P.map aM.pv,d,w,c,(l7 A).map Rs.pv,[],()):=by
  have hb:Ab.asBool (cell (PV.agg (gx 7 ((l7 A).map Rs.pv))) 0)=some (A 0).ok:=by rw[M6];rfl
  generalize PV.agg (gx 7 ((l7 A).map Rs.pv))=r at hdiv Tz adQ hb;have ahp:fX 7 9 (PV.agg [cell r 0,cell r 1,cell r 2,cell r 3,cell r 4,cell r 5,cell r 6,cell r 7,cell r 8,cell r 9,cell r 10,cell r 11,cell r 12,cell r 13,cell r 14,cell r 15,cell r 16,cell r 17,cell r 18,cell r 19,cell r 20,cell r 21,cell r 22,cell r 23,cell r 24,cell r 25,cell r 26,cell r 27,cell r 28,cell r 29,cell r 30,cell r 31,cell r 32,cell r 33,cell r 34,cell r 35,cell r 36,cell r 37,cell r 38,cell r 39,cell r 40,cell r 41,cell r 42,cell r 43,cell r 44,cell r 45,cell r 46,cell r 47,cell r 48,cell r 49,cell r 50,cell r 51,cell r 52,cell r 53,cell r 54,cell r 55,cell r 56,cell r 57,cell r 58,cell r 59,cell r 60,cell r 61,cell r 62])=(l7 A).map Rs.pv:=adQ;simp only[kC,BB,Fi,Fj,Fk,Fl,Fm,aS,U,Mc,Sq hPo hf hn,aI,hdiv,Tz,hb,ahp];rfl
 rw[main];by_cases h:(A 0).ok=true
 ·rw[IT (by simp[h]),IN h,pL];have:=P6 (P:=P) (d:=d) (w:=w) (c:=c) hn A hTo rs.length 0 rounds [] (by omega) (by omega) h (by simp) (by unfold rounds;omega);simpa using this
 simp_all
end
def Dv.pv(x:Dv):PV:=.agg [.bool x.ok,.int .i64 x.sum,match x.l with|[]=>.rs 0 []|t::l=>.rs 4 ((t::l).map iZ.pv)]
theorem dv0(x:Dv):Ab.asBool (cell x.pv 0)=some x.ok:=rfl
theorem dv1(x:Dv):Ab.asInt .i64 (cell x.pv 1)=some x.sum:=rfl
theorem dv2(x:Dv):ao 4 (cell x.pv 2)=some (x.l.map iZ.pv):=by obtain⟨a,b,l⟩:=x;cases l<;>rfl
def uh(n:Nat)(A:Nat→Dv):List PV:=(List.range (n+1)).map fun j=>(A j).pv
theorem Hr(n:Nat)(A:Nat→Dv):(uh n A).length=n+1:=by simp[uh]
theorem Dl{n:Nat}(A:Nat→Dv){j:Nat}(h:j<n+1):(uh n A)[j]?=some (A j).pv:=by unfold uh;simp_all
theorem Sr(n:Nat)(A:Nat→Dv)(i:Nat)(s:Dv):(uh n A).set i s.pv=uh n (put A i s):=by
 apply asw;intro j;unfold uh;rw[asN];by_cases h:j<n+1
 ·rw[AT,AT,as2 h];by_cases e:i=j
  ·subst e;rw[IN rfl,IN (by simp;omega)];simp[put_eq]
  simp_all[IT,wS,Ne.symm]
 simp_all
section
variable {P:List aM} {rs:List Rd} {d w c:Int}
theorem aaS(x y:Dv)(s:Int):(x.ok&&(decide (s>x.sum)||(decide (s=x.sum)&&decide (1+(y.l.length:Int)≥(x.l.length:Int)))))= !(!x.ok||decide (s<x.sum)||(decide (s=x.sum)&&decide (y.l.length+1<x.l.length))):=by grind
theorem Vl(hP:∀p∈P,POk p)(Vi:P.length≤16)(hn:rs.length≤8)(ho:∀y∈rs,IC y){i k:Nat}(hik:i≤k)(hk:k<rs.length)(A:Nat→Dv)(cur:Dv)(hyl:(A (k+1)).l.length≤8)(hyo:(A (k+1)).ok=true)(qA:ajL→Option PV):ba.run (qD ba qA) (rs.map Rd.pv,(i:Int),(k:Int),0,P.map aM.pv,d,w,c,uh rs.length (put A i cur),())=qA (rs.map Rd.pv,(i:Int),((k+1:Nat):Int),P.map aM.pv,d,w,c,uh rs.length (put A i (Co P rs d w i k (A (k+1)) cur P.length)),()):=by
 refine bf (fun p=>(rs.map Rd.pv,(i:Int),(k:Int),(p:Int),P.map aM.pv,d,w,c,uh rs.length (put A i (Co P rs d w i k (A (k+1)) cur p)),())) P.length (fun p hp rec=>?_) (fun rec=>?_) (by unfold rounds;omega) rfl
 ·have Nl:IntKind.i64.wrap ((k:Int)+1)=((k+1:Nat):Int):=ab (by omega);have hw2:IntKind.i64.wrap ((p:Int)+1)=((p+1:Nat):Int):=ab (by omega);generalize hx:Co P rs d w i k (A (k+1)) cur p=x;have hu:Co P rs d w i k (A (k+1)) cur (p+1)=Sj rs d w P[p] i k p (A (k+1)) x:=by rw[Co,cN hp,hx]
  rw[hu];have Um:=Dl (n:=rs.length) (put A i x) (show k+1<rs.length+1 by omega);rw[wS (show k+1≠i by omega)]at Um;have TH:=Dl (n:=rs.length) (put A i x) (show i<rs.length+1 by omega);rw[put_eq]at TH;have rU:∀s,(uh rs.length (put A i x)).set i (Dv.pv s)=uh rs.length (put A i s):=fun s=>by rw[Sr];congr 1;funext j;unfold put;split<;>rfl
  have hlen:=Hr rs.length (put A i x);have aab:al ((k+1:Nat):Int) (uh rs.length (put A i x)).length:=by unfold al;omega
  have aqx:al (i:Int) (uh rs.length (put A i x)).length:=by unfold al;omega
  generalize U8:A (k+1)=y at*;have hw3:IntKind.i64.wrap (1+(y.l.length:Int))=1+(y.l.length:Int):=aZ (by omega) (by omega);unfold qD;dsimp only;rw[IN (by simp;omega),bp aM.pv P p hp];simp only[U,ang,Vc (hP _ (ar9 hp)) hik hk hn ho,aB,Mc,Vg P d w c P[p] (show i<rs.length by omega) hn,aI,Nl,hw2,IN aab,IN aqx,asc,Um,TH,dv0,dv1,dv2,aJ,ay,hw3,bX,AI];rw[IN (show(([].append (y.l.map iZ.pv)).length.add 0).succ*32≤ah∧0<32 by have:([].append (y.l.map iZ.pv):List PV)=y.l.map iZ.pv:=rfl;grind [iZ.pv,ah,List.length_map])];unfold Sj;rw[IN hyo];by_cases hcb:Sg P[p] (cut rs i k)=true
  ·rw[IT (by simp[hcb]),IN hcb];have hb:=aaS x y (IntKind.i64.wrap (tkP d w P[p] rs i+y.sum));rw[hb];have yj:(!x.ok||decide (IntKind.i64.wrap (tkP d w P[p] rs i+y.sum)<x.sum)||(decide (IntKind.i64.wrap (tkP d w P[p] rs i+y.sum)=x.sum)&&decide (y.l.length+1<x.l.length)))=btr (nwD rs d w P[p] i k p y) x:=by rfl
   rw[yj];by_cases hbt:btr (nwD rs d w P[p] i k p y) x=true
   ·rw[IT (by simp[hbt]),IN hbt,←rU (nwD rs d w P[p] i k p y)];rfl
   simp_all
  simp_all
 ·unfold qD;dsimp only;rw[IT (by simp),ab (by omega)]
theorem Ss(hP:∀p∈P,POk p)(Vi:P.length≤16)(hn:rs.length≤8)(ho:∀y∈rs,IC y){i:Nat}(hi:i<rs.length)(A:Nat→Dv)(hA:B4 rs.length A (i+1))(P5:ajM→Option PV):ba.run (qE ba P5) (rs.map Rd.pv,(i:Int),(i:Int),P.map aM.pv,d,w,c,uh rs.length A,())=P5 (rs.map Rd.pv,IntKind.i64.wrap ((i:Int)-1),P.map aM.pv,d,w,c,uh rs.length (put A i (EU P rs d w A i (rs.length-i))),()):=by
 refine bf (fun t=>(rs.map Rd.pv,(i:Int),((i+t:Nat):Int),P.map aM.pv,d,w,c,uh rs.length (put A i (EU P rs d w A i t)),())) (rs.length-i) (fun t ht rec=>?_) (fun rec=>?_) (by unfold rounds;omega) (by simp[EU,Sk])
 ·have Um:=Dl (n:=rs.length) (put A i (EU P rs d w A i t)) (show i+t+1<rs.length+1 by omega);rw[wS (show i+t+1≠i by omega)]at Um;have aab:al ((i+t+1:Nat):Int) (uh rs.length (put A i (EU P rs d w A i t))).length:=by unfold al;rw[Hr];omega
  have Nl:IntKind.i64.wrap (((i+t:Nat):Int)+1)=((i+t+1:Nat):Int):=ab (by omega);unfold qE;dsimp only;rw[IN (by simp;omega),Nl,IN aab,asc,Um];simp only[U,dv0];have hl:=hA.len (j:=i+t+1) (by omega) (by omega);by_cases hyb:(A (i+t+1)).ok=true
  ·rw[IT (by simp[hyb]),Vl hP Vi hn ho (show i≤i+t by omega) (by omega) A _ (by omega) hyb rec];rfl
  ·rw[IN (by simpa using hyb)];have:EU P rs d w A i (t+1)=EU P rs d w A i t:=by simp_all[Co,EU,Me]
   rw[this];rfl
 ·unfold qE;grind
theorem ajN(n:Nat):List.replicate (n+1) (PV.agg [.bool false,.int .i64 0,.rs 0 []])=uh n fun _=>dz:=by unfold uh;rw[List.map_const',auS];rfl
theorem aaT(hP:∀p∈P,POk p)(Vi:P.length≤16)(hn:rs.length≤8)(ho:∀y∈rs,IC y):sT [dp P d w c,.rs 4 (rs.map Rd.pv)]=some (.aG [.int .i64 (yF P rs d w).sum,.rs 4 ((yF P rs d w).l.map iZ.pv),.bool (yF P rs d w).ok]):=by
 have Nl:IntKind.i64.wrap ((rs.length:Int)+1)=((rs.length+1:Nat):Int):=ab (by omega);have eQ:=Dl (n:=rs.length) (fun _=>dz) (show rs.length<rs.length+1 by omega);have kM:al (rs.length:Int) (uh rs.length fun _=>dz).length:=by unfold al;rw[Hr];omega
 simp only[sT,Dm,Fi,Fj,Fk,Fl,Fm,aS,U,AI,Nl,asc,ajN];rw[IN (by grind [ah]),IN kM,eQ];simp only[U,over];have hs:(uh rs.length fun _=>dz).set rs.length (PV.agg (PV.bool true::[cell dz.pv 1,cell dz.pv 2]))=uh rs.length (Ho P rs d w 0):=Sr rs.length (fun _=>dz) rs.length ⟨true,0,[]⟩;rw[hs];refine bf (fun m=>(rs.map Rd.pv,(rs.length:Int)-1-(m:Int),P.map aM.pv,d,w,c,uh rs.length (Ho P rs d w m),())) rs.length (fun m hm rec=>?_) (fun rec=>?_) (by unfold rounds;omega) (by grind [aZ])
 ·unfold wU;dsimp only;have hi:(rs.length:Int)-1-(m:Int)=((rs.length-(m+1):Nat):Int):=by omega
  have hT:=EE (P:=P) (rs:=rs) (d:=d) (w:=w) m (by omega);rw[show rs.length-m=rs.length-(m+1)+1 by omega]at hT;rw[IN (by simp;omega),hi,Ss hP Vi hn ho (show rs.length-(m+1)<rs.length by omega) _ hT rec,aZ (by omega) (by omega),show((rs.length-(m+1):Nat):Int)-1=(rs.length:Int)-1-((m+1:Nat):Int) by omega,show rs.length-(rs.length-(m+1))=m+1 by omega];rfl
 ·have anh:al 0 (uh rs.length (Ho P rs d w rs.length)).length:=by unfold al;rw[Hr];omega
  have TH:=Dl (n:=rs.length) (Ho P rs d w rs.length) (show 0<rs.length+1 by omega);unfold wU;dsimp only;rw[IT (by simp;omega),IN anh,show(0:Int).toNat=0 from rfl,TH];simp only[U,dv0,dv1,dv2,IN anh];rfl
end
theorem vN.aK{N:an}(h:vN N):(∀p∈N.aK,POk p)∧N.aK.length≤16:=by
 have h1:=h.parts.2.2;unfold cJ at h1;split at h1
 ·omega
 ·split at h1
  ·omega
  ·rename_i _ hle;refine⟨fun p hp=>?_,by omega⟩;obtain⟨k,hk,rfl⟩:=atn hp;have:=(sb _ _).1 h1 k hk;unfold Hs at this;rw[cN hk]at this;simp only at this;split at this
   ·omega
   ·split at this
    ·omega
    ·split at this
     ·omega
     ·rename_i hb;unfold oq wi at hb;simp only[asu,asI,avs,Bool.not_eq_false,ao9,cT]at hb;exact⟨⟨by omega,by omega⟩,⟨by omega,by omega⟩,by omega,by omega⟩
section
variable {N:an} {q:iJ} {l:List bx}
theorem aaU(h:vN N)(hg:As N l):∀m k out,k+m=l.length→Se l k out→∀y∈dS N (l.drop k) out,IC y:=by
 intro m;induction m with
 |zero=>intro k out e hi;rw[show k=l.length by omega,as3];exact hi.ok
 |succ m ih=>
  intro k out e hi;have hk:k<l.length:=by omega
  rw[mW hk];exact ih (k+1) _ (by omega) (F8 h hg hk hi)
theorem Mf(h:vN N)(hg:As N l):∀y∈dS N l [],IC y:=by have:=aaU h hg l.length 0 [] (by omega) ⟨by simp,fun y hy=>by simp at hy,fun hh=>by cases hh⟩;simpa using this
theorem Vm{P:List aM}{d w c:Int}(hPo:P.length≤maxLen∧∀y∈P,aM.Ok y)(hf:(cJ P d w c).2=0){rs:List Rd}(hn:8<rs.length):kC [dp P d w c,.rs 4 (rs.map Rd.pv)]=some (.aG [.int .i64 0,.rs 4 [],.int .i64 33]):=by
 have hv:mZ [dp P d w c,.rs 4 (rs.map Rd.pv)]=some (.int .i64 33):=by simp only[mZ,Bz,Fi,Fj,Fk,Fl,Fm,aS,U,Mc,BA P d w c hPo,AI,hf];simp[res,cg,Ab.asInt];omega
 simp only[kC,BB,Fi,Fj,Fk,Fl,Fm,aS,U,Mc,hv,aI];rfl
def gD(N:an)(l:List bx):Dv:=yF N.aK (dS N l []) N.bn N.within
def rJ(N:an)(l:List bx):Int:=if 8<(dS N l []).length then 33 else if(gD N l).ok=true then 0 else 34
def PM(q:iJ)(l:List bx):Int:=match l[0]? with|some x=>x.dep|none=>q.time
def PN(q:iJ)(l:List bx):Int:=match l[l.length-1]? with|some x=>x.arr|none=>q.time
def pV(N:an)(q:iJ)(l:List bx):PV:=if rJ N l=0 then .aG [.agg [.int .i64 (PM q l),.int .i64 (PN q l),.int .i64 (dS N l []).length,.int .i64 (Hd N.cap (gD N l).sum),.int .i64 (M7 l 0)],.rs 4 ((gD N l).l.map iZ.pv),.int .i64 0]else .aG [.agg [.int .i64 0,.int .i64 0,.int .i64 0,.int .i64 0,.int .i64 0],.rs 4 [],.int .i64 (rJ N l)]
theorem adR:PV.agg [.rs 6 (N.aK.map aM.pv),.int .i64 N.bn,.int .i64 N.within,.int .i64 N.cap]=dp N.aK N.bn N.within N.cap:=rfl
theorem t2(a b:PV):cg 2 (.aG [a,b])=some [a,b]:=rfl
theorem t3(a b c:PV):cg 3 (.aG [a,b,c])=some [a,b,c]:=rfl
theorem g5(a b c d e:PV):asAgg 5 (.agg [a,b,c,d,e])=some ():=rfl
theorem OI(hn:8<(dS N l []).length):pV N q l=.aG [.agg [.int .i64 0,.int .i64 0,.int .i64 0,.int .i64 0,.int .i64 0],.rs 4 [],.int .i64 33]:=by simp_all[rJ,IN,pV,IT,decide]
theorem OJ(hn:¬8<(dS N l []).length)(ho:¬(gD N l).ok=true):pV N q l=.aG [.agg [.int .i64 0,.int .i64 0,.int .i64 0,.int .i64 0,.int .i64 0],.rs 4 [],.int .i64 34]:=by simp_all[rJ,IT,pV,decide]
theorem OK(hn:¬8<(dS N l []).length)(ho:(gD N l).ok=true):pV N q l=.aG [.agg [.int .i64 (PM q l),.int .i64 (PN q l),.int .i64 (dS N l []).length,.int .i64 (Hd N.cap (gD N l).sum),.int .i64 (M7 l 0)],.rs 4 ((gD N l).l.map iZ.pv),.int .i64 0]:=by
 have:rJ N l=0:=by simp_all[rJ,IT,IN]
 unfold pV;rw[this,IN rfl]
theorem WU(h:vN N)(hg:As N l)(hl:l.length≤1000000)(ho:∀x∈l,x.Ok):fu [N.pv,q.pv,Kh l]=some (pV N q l):=by
 obtain⟨hP,Vi⟩:=h.aK;have adS:=Mf h hg;have hPo:N.aK.length≤maxLen∧∀y∈N.aK,aM.Ok y:=⟨h.ok.aK.1,h.ok.aK.2⟩;have hf:=h.parts.2.2;simp only[fu,vg,lj,ll,lq,lr,lu,lv,lx,ly,lz,lA,Bd,Be,Bf,Bg,Bh,Bi,Bj,Bk,Bl,Bm,Bn,jA,j0,U,pU,jF,adJ h hg hl,t2,abm,ahH,aS,aI,adR,AI];rw[IT (by simp)];by_cases hn:8<(dS N l []).length
 ·rw[Vm hPo hf hn,OI hn];rfl
 ·rw[adP (d:=N.bn) (w:=N.within) (c:=N.cap) hPo hf hP Vi (show(dS N l []).length≤8 by omega) adS,show yF N.aK (dS N l []) N.bn N.within=gD N l from rfl];by_cases hk:(gD N l).ok=true
  ·rw[IN hk,OK hn hk];simp only[U,t3,abm,ahH,aS,aI,Sc l hl ho];rw[IT (by simp)];unfold PM PN;by_cases hz:0<l.length
   ·rw[IN (by simp;omega),show dA (l.map bx.pv) 0=_ from bp bx.pv l 0 hz,aZ (by omega) (by omega),show(l.length:Int)-1=((l.length-1:Nat):Int) by omega,bp bx.pv l (l.length-1) (by omega),cN hz,cN (show l.length-1<l.length by omega)];rfl
   simp_all
  ·rw[IT hk,OJ hn hk];rfl
theorem RX(h:vN N)(hg:As N l)(hl:l.length≤1000000)(ho:∀x∈l,x.Ok):na [N.pv,q.pv,Kh l]=some (pV N q l):=by
 obtain⟨hP,Vi⟩:=h.aK;have adS:=Mf h hg;simp only[na,Ga,lj,ll,lq,lr,lu,lv,lx,ly,lz,lA,Bd,Be,Bf,Bg,Bh,Bi,Bj,Bk,Bl,Bm,Bn,jA,j0,U,pU,jF,aaL h hg hl,t2,abm,ahH,aS,aI,adR,AI];rw[IT (by simp)];by_cases hn:8<(dS N l []).length
 ·rw[IN (by simp;omega),OI hn]
 ·rw[IT (by simp;omega),aaT (d:=N.bn) (w:=N.within) (c:=N.cap) hP Vi (show(dS N l []).length≤8 by omega) adS,show yF N.aK (dS N l []) N.bn N.within=gD N l from rfl];simp only[U,t3,abm,ahH,aS,aI,aB];by_cases hk:(gD N l).ok=true
  ·rw[IT (by simp[hk]),Vh,OK hn hk];simp only[U,aI,OD l hl ho];unfold PM PN;by_cases hz:0<l.length
   ·rw[IN (by simp;omega),show dA (l.map bx.pv) 0=_ from bp bx.pv l 0 hz,aZ (by omega) (by omega),show(l.length:Int)-1=((l.length-1:Nat):Int) by omega,bp bx.pv l (l.length-1) (by omega),cN hz,cN (show l.length-1<l.length by omega)];rfl
   simp_all
  simp_all[IN,OJ]
theorem OL(N:an)(q:iJ)(l:List bx):∃a b c d e ts,some (pV N q l)=some (.aG [.agg [.int .i64 a,.int .i64 b,.int .i64 c,.int .i64 d,.int .i64 e],.rs 4 ts,.int .i64 (rJ N l)]):=by
 unfold pV;split
 ·simp_all
 simp
theorem ahm(h:vN N)(hg:As N l)(hl:l.length≤1000000)(ho:∀x∈l,x.Ok):∃a b c d e ts,fu [N.pv,q.pv,Kh l]=some (.aG [.agg [.int .i64 a,.int .i64 b,.int .i64 c,.int .i64 d,.int .i64 e],.rs 4 ts,.int .i64 (rJ N l)]):=by rw[WU h hg hl ho];exact OL N q l
theorem adM(h:vN N)(hg:As N l)(hl:l.length≤1000000)(ho:∀x∈l,x.Ok):∃a b c d e ts,na [N.pv,q.pv,Kh l]=some (.aG [.agg [.int .i64 a,.int .i64 b,.int .i64 c,.int .i64 d,.int .i64 e],.rs 4 ts,.int .i64 (rJ N l)]):=by rw[RX h hg hl ho];exact OL N q l
end
end Go.Ab.Tt
