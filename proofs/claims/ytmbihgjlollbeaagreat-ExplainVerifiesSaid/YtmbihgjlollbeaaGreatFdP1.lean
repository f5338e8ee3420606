import Derived.Test.YtmbihgjlollbeaaGreatFbP2
namespace Go.Ab.Tt
set_option maxRecDepth 100000
set_option linter.all false
structure Dv where
 ok:Bool
 sum:Int
 l:List iY
def dz:Dv:=⟨false,0,[]⟩
def wiB(a b d:Int):Bool:=decide (b≤a)||decide (IntKind.u64.wrap (IntKind.u64.wrap b-IntKind.u64.wrap a)≤IntKind.u64.wrap d)
theorem Vm(a b d:Int):sV [.int .i64 a,.int .i64 b,.int .i64 d]=some (.bool (wiB a b d)):=by simp[sV,Dl,aI,U,az,wiB]
theorem Vn(a b d:Int):gG [.int .i64 a,.int .i64 b,.int .i64 d]=some (.bool (wiB a b d)):=by grind [gG,vt,aI,U,wiB]
def tkP(d w:Int)(p:aM)(rs:List Rd):Nat→Int
 |0=>p.jM
 |i+1=>match rs[i]?,rs[i+1]? with
  |some a,some b=>if wiB a.arr b.dep w=true then(if IntKind.i64.wrap (p.jM-d)>0 then IntKind.i64.wrap (p.jM-d)else 0)else p.jM
  |_,_=>p.jM
variable{i:Nat}
theorem aaU(l:List aM)(d w c:Int)(p:aM){rs:List Rd}(hi:i<rs.length)(hn:rs.length≤8):kN [dr l d w c,p.pv,.rs 4 (rs.map Rd.pv),.int .i64 (i:Int)]=some (.int .i64 (tkP d w p rs i)):=by
 simp only[kN,sl,Fm,Fo,Fq,Fs,Ft,ahB,Xf,Xg,Xh,Xi,Xj,Xk,aS,aI,U];cases i with
 |zero=>rfl
 |succ i=>rw[atA (show((i+1:Nat):Int)>0 by omega),ic i (by omega),bn Rd.pv rs i (by omega),bn Rd.pv rs (i+1) hi];simp only[cond_true,U,ahA,anm,Vm,aB,tkP,cN (show i<rs.length by omega),cN hi];grind
theorem Vo(l:List aM)(d w c:Int)(p:aM){rs:List Rd}(hi:i<rs.length)(hn:rs.length≤8):jf [dr l d w c,p.pv,.rs 4 (rs.map Rd.pv),.int .i64 (i:Int)]=some (.int .i64 (tkP d w p rs i)):=by
 simp only[jf,qB,Fm,Fo,Fq,Fs,Ft,ahB,Xf,Xg,Xh,Xi,Xj,Xk,aS,aI,U];cases i with
 |zero=>rfl
 |succ i=>rw[atA (show((i+1:Nat):Int)>0 by omega),ic i (by omega),bn Rd.pv rs i (by omega),bn Rd.pv rs (i+1) hi];simp only[cond_true,U,ahA,anm,Vn,aB,tkP,cN (show i<rs.length by omega),cN hi];grind
def nwD(rs:List Rd)(d w:Int)(x:aM)(i k p:Nat)(nx:Dv):Dv:=⟨true,IntKind.i64.wrap (tkP d w x rs i+nx.sum),⟨p,i,k,tkP d w x rs i⟩::nx.l⟩
def btr(n cur:Dv):Bool:= !cur.ok||decide (n.sum<cur.sum)||(decide (n.sum=cur.sum)&&decide (n.l.length<cur.l.length))
def Sw(rs:List Rd)(d w:Int)(x:aM)(i k p:Nat)(nx cur:Dv):Dv:=if nx.ok=true then if Su x (cut rs i k)=true then if btr (nwD rs d w x i k p nx) cur=true then nwD rs d w x i k p nx else cur else cur else cur
def Cs(P:List aM)(rs:List Rd)(d w:Int)(i k:Nat)(nx cur:Dv):Nat→Dv
 |0=>cur
 |p+1=>match P[p]? with
  |some x=>Sw rs d w x i k p nx (Cs P rs d w i k nx cur p)
  |none=>Cs P rs d w i k nx cur p
def put(A:Nat→Dv)(i:Nat)(s:Dv):Nat→Dv:=fun j=>if j=i then s else A j
def EY(P:List aM)(rs:List Rd)(d w:Int)(A:Nat→Dv)(i:Nat):Nat→Dv
 |0=>A i
 |t+1=>Cs P rs d w i (i+t) (A (i+t+1)) (EY P rs d w A i t) P.length
def Hu(P:List aM)(rs:List Rd)(d w:Int):Nat→Nat→Dv
 |0=>put (fun _=>dz) rs.length ⟨true,0,[]⟩
 |m+1=>put (Hu P rs d w m) (rs.length-(m+1)) (EY P rs d w (Hu P rs d w m) (rs.length-(m+1)) (m+1))
def yK(P:List aM)(rs:List Rd)(d w:Int):Dv:=Hu P rs d w rs.length 0
theorem Sx(A:Nat→Dv)(i:Nat):put A i (A i)=A:=by funext j;unfold put;simp_all
theorem wX{A:Nat→Dv}{j:Nat}{s:Dv}(h:j≠i):put A i s j=A j:=IS h
theorem put_eq{A:Nat→Dv}{s:Dv}:put A i s i=s:=IN rfl
structure Hv(n:Nat)(A:Nat→Dv)(i:Nat)(s:Dv):Prop where
 len:s.l.length≤n-i
 on:s.ok=true→∃(k p:Nat)(v:Int),i≤k∧k<n∧(A (k+1)).ok=true∧s.l=⟨p,i,k,v⟩::(A (k+1)).l
structure B8(n:Nat)(A:Nat→Dv)(i:Nat):Prop where
 hi:∀j,i≤j→j<n→Hv n A j (A j)
 top:A n=⟨true,0,[]⟩
 lo:∀j,j<i→A j=dz
section
variable {P:List aM} {rs:List Rd} {d w:Int}
theorem B8.len{n i:Nat}{A:Nat→Dv}(h:B8 n A i){j:Nat}(h1:i≤j)(h2:j≤n):(A j).l.length≤n-j:=by
 by_cases e:j=n
 ·subst e;rw[h.top];simp
 ·exact(h.hi j h1 (by omega)).len
theorem ajO{n i k p:Nat}{A:Nat→Dv}{x:aM}{cur:Dv}(h:B8 n A (i+1))(hc:Hv n A i cur)(h1:i≤k)(h2:k<n):Hv n A i (Sw rs d w x i k p (A (k+1)) cur):=by
 unfold Sw;split
 ·rename_i hn;split
  ·split
   ·have:=h.len (j:=k+1) (by omega) (by omega);exact⟨by grind [nwD,List.length_cons],fun _=>⟨k,p,_,h1,h2,hn,rfl⟩⟩
   omega
  omega
 omega
theorem Qa{n i k:Nat}{A:Nat→Dv}{cur:Dv}(h:B8 n A (i+1))(hc:Hv n A i cur)(h1:i≤k)(h2:k<n):∀p,Hv n A i (Cs P rs d w i k (A (k+1)) cur p)
 |0=>hc
 |p+1=>by
  unfold Cs;split
  ·exact ajO h (Qa h hc h1 h2 p) h1 h2
  ·exact Qa h hc h1 h2 p
theorem Mj{i k:Nat}{nx cur:Dv}(h:nx.ok=false):∀p,Cs P rs d w i k nx cur p=cur
 |0=>rfl
 |p+1=>by
  unfold Cs;split
  ·simp_all[Sw,IS,decide,Mj]
  ·exact Mj h p
theorem Xo{n i:Nat}{A:Nat→Dv}(h:B8 n A (i+1)):∀t,i+t≤n→Hv n A i (EY P rs d w A i t)
 |0,_=>by unfold EY;rw[h.lo i (by omega)];exact⟨by simp[dz],fun h=>by cases h⟩
 |t+1,ht=>by unfold EY;exact Qa h (Xo h t (by omega)) (by omega) (by omega) _
theorem ajP{n i:Nat}{A:Nat→Dv}{s:Dv}(h:B8 n A (i+1))(hs:Hv n A i s)(hi:i<n):B8 n (put A i s) i:=by
 refine⟨fun j h1 h2=>?_,by rw[wX (by omega)];exact h.top,fun j hj=>by rw[wX (by omega)];exact h.lo j (by omega)⟩;have key:∀s',Hv n A j s'→Hv n (put A i s) j s':=fun s' hs'=>⟨hs'.len,fun ho=>by obtain⟨k,p,v,a1,a2,a3,a4⟩:=hs'.on ho;exact⟨k,p,v,a1,a2,by rw[wX (by omega)];exact a3,by rw[wX (by omega)];exact a4⟩⟩;by_cases e:j=i
 ·subst e;rw[put_eq];exact key _ hs
 ·rw[wX e];exact key _ (h.hi j (by omega) h2)
theorem EH:∀m,m≤rs.length→B8 rs.length (Hu P rs d w m) (rs.length-m)
 |0,_=>⟨fun j h1 h2=>by omega,put_eq,fun j hj=>wX (by omega)⟩
 |m+1,hm=>by have h:=EH m (by omega);rw[show rs.length-m=rs.length-(m+1)+1 by omega]at h;exact ajP h (Xo h (m+1) (by omega)) (by omega)
theorem ad2{n:Nat}{A:Nat→Dv}(h:B8 n A 0):∀m i,n-i≤m→i≤n→(A i).ok=true→∀t∈(A i).l,0≤t.fst∧t.fst<n
 |0,i,h1,h2,_=>by
  have:i=n:=by omega
  subst this;rw[h.top];simp
 |m+1,i,h1,h2,ho=>by
  by_cases e:i=n
  ·subst e;rw[h.top];simp
  ·obtain⟨k,p,v,a1,a2,a3,a4⟩:=(h.hi i (by omega) (by omega)).on ho;rw[a4];intro t ht;rcases asm.1 ht with rfl|ht
   ·grind
   ·exact ad2 h m (k+1) (by omega) (by omega) a3 t ht
theorem adl(ho:(yK P rs d w).ok=true):∀t∈(yK P rs d w).l,0≤t.fst∧t.fst<rs.length:=by have h:=EH (P:=P) (rs:=rs) (d:=d) (w:=w) rs.length (by omega);rw[aun]at h;exact ad2 h rs.length 0 (by omega) (by omega) ho
theorem aaF:(yK P rs d w).l.length≤rs.length:=by have h:=EH (P:=P) (rs:=rs) (d:=d) (w:=w) rs.length (by omega);rw[aun]at h;have:=h.len (j:=0) (by omega) (by omega);simpa[yK]using this
end
def Hj(c s:Int):Int:=if c>0∧s>c then c else s
theorem aaV(l:List aM)(d w c s:Int):sW [dr l d w c,.int .i64 s]=some (.int .i64 (Hj c s)):=by simp only[sW,Dm,Fm,Fo,Fq,Fs,Ft,aI,U,aJ,Hj];grind
theorem Vp(l:List aM)(d w c s:Int):qC [dr l d w c,.int .i64 s]=some (.int .i64 (Hj c s)):=by simp only[qC,BC,Fm,Fo,Fq,Fs,Ft,aI,U,Hj];grind
structure Rs where
 ok:Bool
 sum:Int
 cnt:Int
 p:Int
 f:Int
 l:Int
 jM:Int
def Rs.pv(x:Rs):PV:=.agg [.bool x.ok,.int .i64 x.sum,.int .i64 x.cnt,.int .i64 x.p,.int .i64 x.f,.int .i64 x.l,.int .i64 x.jM]
theorem rsA(x:Rs):asAgg 7 x.pv=some ():=rfl
theorem rs0(x:Rs):Ab.asBool (cell x.pv 0)=some x.ok:=rfl
theorem rs1(x:Rs):Ab.asInt .i64 (cell x.pv 1)=some x.sum:=rfl
theorem rs2(x:Rs):Ab.asInt .i64 (cell x.pv 2)=some x.cnt:=rfl
theorem rs5(x:Rs):Ab.asInt .i64 (cell x.pv 5)=some x.l:=rfl
theorem Ni(x:Rs):PV.agg [cell x.pv 0,cell x.pv 1,cell x.pv 2,cell x.pv 3,cell x.pv 4,cell x.pv 5,cell x.pv 6]=x.pv:=rfl
theorem aaW(x:Rs)(s c:Int):kO [x.pv,.int .i64 s,.int .i64 c]=some (.bool (!x.ok||decide (s<x.sum)||(decide (s=x.sum)&&decide (c<x.cnt)))):=by have h3:Ab.asInt .i64 (cell x.pv 3)=some x.p:=rfl;have h4:Ab.asInt .i64 (cell x.pv 4)=some x.f:=rfl;have h6:Ab.asInt .i64 (cell x.pv 6)=some x.jM:=rfl;simp only[kO,sm,rsA,rs0,rs1,rs2,h3,h4,rs5,h6,aI,U,az,aJ,bT]
def rJ(s:Dv):Rs:=match s.l with
 |[]=>⟨s.ok,s.sum,0,0,0,0,0⟩
 |t::r=>⟨s.ok,s.sum,((r.length+1:Nat):Int),t.prod,t.fst,t.lst,t.jM⟩
theorem LN(s:Dv):(rJ s).ok=s.ok:=by unfold rJ;split<;>rfl
theorem Xp(s:Dv):(rJ s).sum=s.sum:=by unfold rJ;split<;>rfl
theorem Xq(s:Dv):(rJ s).cnt=(s.l.length:Int):=by unfold rJ;grind
def l8(A:Nat→Dv):List Rs:=(List.range 9).map fun j=>rJ (A j)
theorem Dn(A:Nat→Dv){j:Nat}(h:j<9):((l8 A).map Rs.pv)[j]?=some (rJ (A j)).pv:=by unfold l8;simp_all
theorem Sy(A:Nat→Dv)(i:Nat)(s:Dv):((l8 A).map Rs.pv).set i (rJ s).pv=(l8 (put A i s)).map Rs.pv:=by
 apply asB;intro j;unfold l8;rw[asU];by_cases h:j<9
 ·rw[AT,AT,AT,AT,as8 h];by_cases e:i=j
  ·subst e;rw[IN rfl,IN (by simp;omega)];simp[put_eq]
  simp_all[IS,wX,Ne.symm]
 simp_all
theorem Sz(A:Nat→Dv):(l8 A).length=9:=by rfl
section
variable {P:List aM} {rs:List Rd} {d w c:Int}
theorem aaX(hP:∀p∈P,POk p)(Vq:P.length≤16)(hn:rs.length≤8)(ho:∀y∈rs,IJ y){i k:Nat}(hik:i≤k)(hk:k<rs.length)(T4:List PV)(A:Nat→Dv)(cur:Dv)(hy:(A (k+1)).l.length≤8)(qD:ajQ→Option PV):bd.run (qE bd qD) ((rs.length:Int),(i:Int),(k:Int),((P.map aM.pv).length:Int),0,P.map aM.pv,d,w,c,T4,(l8 (put A i cur)).map Rs.pv,rs.map Rd.pv,())=qD ((rs.length:Int),(i:Int),((k+1:Nat):Int),P.map aM.pv,d,w,c,T4,(l8 (put A i (Cs P rs d w i k (A (k+1)) cur P.length))).map Rs.pv,rs.map Rd.pv,()):=by
 have aqC:List.drop i (List.take (k+1) (rs.map Rd.pv))=(cut rs i k).map Rd.pv:=by simp[cut,List.map_drop,auf]
 refine bg (fun p=>((rs.length:Int),(i:Int),(k:Int),((P.map aM.pv).length:Int),(p:Int),P.map aM.pv,d,w,c,T4,(l8 (put A i (Cs P rs d w i k (A (k+1)) cur p))).map Rs.pv,rs.map Rd.pv,())) P.length (fun p hp rec=>?_) (fun rec=>?_) (by unfold rounds;omega) rfl
 ·have kY:∀m:Nat,m<9→al (m:Int) 9∧0<7:=fun m hm=>by unfold al;omega
  have Nr:IntKind.i64.wrap ((k:Int)+1)=((k+1:Nat):Int):=ab (by omega);have hw2:IntKind.i64.wrap ((p:Int)+1)=((p+1:Nat):Int):=ab (by omega);generalize hx:Cs P rs d w i k (A (k+1)) cur p=x;have hu:Cs P rs d w i k (A (k+1)) cur (p+1)=Sw rs d w P[p] i k p (A (k+1)) x:=by rw[Cs,cN hp,hx]
  rw[hu];have Uv:=Dn (put A i x) (show k+1<9 by omega);rw[wX (show k+1≠i by omega)]at Uv;have R4:=Dn (put A i x) (show i<9 by omega);rw[put_eq]at R4;have rX:∀s,((l8 (put A i x)).map Rs.pv).set i (rJ s).pv=(l8 (put A i s)).map Rs.pv:=fun s=>by rw[Sy];congr 2;funext j;unfold put;split<;>rfl
  generalize Vg:A (k+1)=y at*;have hcn:IntKind.i64.wrap ((rJ y).cnt+1)=((y.l.length+1:Nat):Int):=by grind [Xq,ab]
  unfold qE;dsimp only;rw[IN (by simp;omega),Nr,hw2,IN (kY (k+1) (by omega)),are,atv,Uv,bn aM.pv P p hp];simp only[U,rs0,anp,are,atv,aqC,Vl (hP _ (aqW hp)) hik hk hn ho,aB,Mh,Uv,R4,rs1,rs2,Ni,LN,aaU P d w c P[p] (show i<rs.length by omega) hn,aI,aaW,hcn];rw[IN (show 0≤(i:Int)∧(i:Int)≤((k+1:Nat):Int)∧((k+1:Nat):Int)≤((rs.map Rd.pv).length:Int)∧True∧4≠0 by grind)];simp only[IN (kY (k+1) (by omega)),IN (kY i (by omega)),Xp,Xq];unfold Sw;by_cases hyb:y.ok=true
  ·rw[IN hyb,IN hyb];by_cases hcb:Su P[p] (cut rs i k)=true
   ·rw[IS (by simp[hcb]),IN hcb];have hb:(!x.ok||decide (IntKind.i64.wrap (tkP d w P[p] rs i+y.sum)<x.sum)||(decide (IntKind.i64.wrap (tkP d w P[p] rs i+y.sum)=x.sum)&&decide (((y.l.length+1:Nat):Int)<(x.l.length:Int))))=btr (nwD rs d w P[p] i k p y) x:=by grind [btr,nwD,List.length_cons,Int.ofNat_lt]
    rw[hb];by_cases hbt:btr (nwD rs d w P[p] i k p y) x=true
    ·rw[IN hbt,IN hbt,←rX (nwD rs d w P[p] i k p y)];rfl
    simp_all
   simp_all
  simp_all
 ·unfold qE;dsimp only;rw[IS (by simp),ab (by omega)]
theorem Vr(hP:∀p∈P,POk p)(Vq:P.length≤16)(hn:rs.length≤8)(ho:∀y∈rs,IJ y){i:Nat}(hi:i<rs.length)(T4:List PV)(A:Nat→Dv)(hA:B8 rs.length A (i+1))(Qb:ajR→Option PV):bd.run (qF bd Qb) ((rs.length:Int),(i:Int),(i:Int),P.map aM.pv,d,w,c,T4,(l8 A).map Rs.pv,rs.map Rd.pv,())=Qb ((rs.length:Int),IntKind.i64.wrap ((i:Int)-1),P.map aM.pv,d,w,c,T4,(l8 (put A i (EY P rs d w A i (rs.length-i)))).map Rs.pv,rs.map Rd.pv,()):=by
 refine bg (fun t=>((rs.length:Int),(i:Int),((i+t:Nat):Int),P.map aM.pv,d,w,c,T4,(l8 (put A i (EY P rs d w A i t))).map Rs.pv,rs.map Rd.pv,())) (rs.length-i) (fun t ht rec=>?_) (fun rec=>?_) (by unfold rounds;omega) (by simp[EY,Sx])
 ·unfold qF;dsimp only;rw[IN (by simp;omega)];have hl:=hA.len (j:=i+t+1) (by omega) (by omega);exact aaX hP Vq hn ho (by omega) (by omega) T4 A _ (by omega) rec
 ·unfold qF;grind
theorem aqD:fZ 7 9 (PV.agg [.bool false,.int .i64 0,.int .i64 0,.int .i64 0,.int .i64 0,.int .i64 0,.int .i64 0,.bool false,.int .i64 0,.int .i64 0,.int .i64 0,.int .i64 0,.int .i64 0,.int .i64 0,.bool false,.int .i64 0,.int .i64 0,.int .i64 0,.int .i64 0,.int .i64 0,.int .i64 0,.bool false,.int .i64 0,.int .i64 0,.int .i64 0,.int .i64 0,.int .i64 0,.int .i64 0,.bool false,.int .i64 0,.int .i64 0,.int .i64 0,.int .i64 0,.int .i64 0,.int .i64 0,.bool false,.int .i64 0,.int .i64 0,.int .i64 0,.int .i64 0,.int .i64 0,.int .i64 0,.bool false,.int .i64 0,.int .i64 0,.int .i64 0,.int .i64 0,.int .i64 0,.int .i64 0,.bool false,.int .i64 0,.int .i64 0,.int .i64 0,.int .i64 0,.int .i64 0,.int .i64 0,.bool false,.int .i64 0,.int .i64 0,.int .i64 0,.int .i64 0,.int .i64 0,.int .i64 0])=(l8 fun _=>dz).map Rs.pv:=rfl
theorem ad3(T:List Rs):(gy 7 (T.map Rs.pv)).length=T.length*7:=by rw[Ib,AI]
theorem IL:∀(T:List Rs)(i j:Nat)(x:Rs),T[i]?=some x→j<7→(gy 7 (T.map Rs.pv))[i*7+j]?=some (cell x.pv j)
 |[],i,j,x,h,_=>by simp at h
 |y::T,0,j,x,h,hj=>by
  simp only[asL,cO]at h;subst h;have e:gy 7 ((y::T).map Rs.pv)=aQ 7 y.pv++gy 7 (T.map Rs.pv):=rfl;rw[e,as4 (by rw[bt];omega),fa (show y.pv.cells.length=7 from rfl)];match j,hj with
  |0,_=>rfl
  |1,_=>rfl
  |2,_=>rfl
  |3,_=>rfl
  |4,_=>rfl
  |5,_=>rfl
  |6,_=>rfl
  |n+7,h=>omega
 |y::T,i+1,j,x,h,hj=>by have e:gy 7 ((y::T).map Rs.pv)=aQ 7 y.pv++gy 7 (T.map Rs.pv):=rfl;rw[e,atd (by rw[bt];omega),bt,show(i+1)*7+j-7=i*7+j by omega];simp_all[IL]
theorem Vs(T:List Rs)(n:Nat)(hn:T.length=n):fZ 7 n (.agg (gy 7 (T.map Rs.pv)))=T.map Rs.pv:=by
 apply asB;intro i;unfold fZ;rw[AT,AT];by_cases hi:i<n
 ·obtain⟨x,hx⟩:∃x,T[i]?=some x:=⟨_,cN (by omega)⟩;rw[hx,as8 hi];simp only[No,cO];have hc:∀j,j<7→cell (.agg (gy 7 (T.map Rs.pv))) (i*7+j)=cell x.pv j:=fun j hj=>by show(gy 7 (T.map Rs.pv)).getD (i*7+j) .bad=_;rw[at0,IL T i j x hx hj];rfl
  show PV.agg [cell _ (i*7),cell _ (i*7+1),cell _ (i*7+2),cell _ (i*7+3),cell _ (i*7+4),cell _ (i*7+5),cell _ (i*7+6)]=_;have h0:=hc 0 (by omega);simp_all[atv,Ni]
 simp_all
theorem aaY(hP:∀p∈P,POk p)(Vq:P.length≤16)(hn:rs.length≤8)(ho:∀y∈rs,IJ y):sX [dr P d w c,.rs 4 (rs.map Rd.pv)]=some (.agg (gy 7 ((l8 (Hu P rs d w rs.length)).map Rs.pv))):=by
 have kY:al (rs.length:Int) 9∧0<7:=by unfold al;omega
 have hz:=Dn (fun _=>dz) (show rs.length<9 by omega);simp only[sX,Dp,Fm,Fo,Fq,Fs,Ft,aS,U,AI];rw[IN kY,aqD,are,atv,hz];simp only[U,over];have hs:((l8 fun _=>dz).map Rs.pv).set rs.length (PV.agg (PV.bool true::[cell (rJ dz).pv 1,cell (rJ dz).pv 2,cell (rJ dz).pv 3,cell (rJ dz).pv 4,cell (rJ dz).pv 5,cell (rJ dz).pv 6]))=(l8 (Hu P rs d w 0)).map Rs.pv:=Sy (fun _=>dz) rs.length ⟨true,0,[]⟩;rw[hs];refine bg (fun m=>((rs.length:Int),(rs.length:Int)-1-(m:Int),P.map aM.pv,d,w,c,(l8 fun _=>dz).map Rs.pv,(l8 (Hu P rs d w m)).map Rs.pv,rs.map Rd.pv,())) rs.length (fun m hm rec=>?_) (fun rec=>?_) (by unfold rounds;omega) (by grind [aZ])
 ·unfold wY;dsimp only;have hi:(rs.length:Int)-1-(m:Int)=((rs.length-(m+1):Nat):Int):=by omega
  have hT:=EH (P:=P) (rs:=rs) (d:=d) (w:=w) m (by omega);rw[show rs.length-m=rs.length-(m+1)+1 by omega]at hT;rw[IN (by simp;omega),hi,Vr hP Vq hn ho (show rs.length-(m+1)<rs.length by omega) _ _ hT rec,aZ (by omega) (by omega),show((rs.length-(m+1):Nat):Int)-1=(rs.length:Int)-1-((m+1:Nat):Int) by omega,show rs.length-(rs.length-(m+1))=m+1 by omega];rfl
 ·have hl:=Sz (Hu P rs d w rs.length);generalize l8 (Hu P rs d w rs.length)=T at*;unfold wY;dsimp only;have h63:(T.map Rs.pv).length*7=63:=by rw[AI,hl]
  have TI:asAgg 63 (PV.agg (gy 7 (T.map Rs.pv)))=some ():=by simp_all[gy,Rs.pv,ad3,asAgg,IN]
  rw[IS (by simp;omega),IN h63,TI];simp only[U];have hlr:((l8 fun _=>dz).map Rs.pv).length=9:=by rfl
  simp_all[IN,decide,Vs]
end
section
variable {P:List aM} {rs:List Rd} {d w c:Int}
theorem SA(hPo:P.length≤maxLen∧∀y∈P,y.Ok)(hf:(cJ P d w c).2=0)(hn:rs.length≤8):na [dr P d w c,.rs 4 (rs.map Rd.pv)]=some (.int .i64 0):=by simp only[na,BD,Fm,Fo,Fq,Fs,Ft,aS,U,Mh,BE P d w c hPo,AI,hf];simp only[res,cn,amo,asi,BY,U,O6,T1,aI];grind
theorem Qc(hn:rs.length≤8)(A:Nat→Dv)(hA:B8 rs.length A 0):∀(m i N:Nat)(out:List iY),rs.length-i≤m→i≤rs.length→(A i).ok=true→out.length≤i→m<N→cE (lv bd) N (rs.map Rd.pv,(i:Int),P.map aM.pv,d,w,c,(l8 A).map Rs.pv,out.map iY.pv,())=some (.aG [.int .i64 (Hj c (A 0).sum),.rs 4 ((out++(A i).l).map iY.pv),.int .i64 0]):=by
 have tV:∀(out:List iY)rec,lv bd (rs.map Rd.pv,(rs.length:Int),P.map aM.pv,d,w,c,(l8 A).map Rs.pv,out.map iY.pv,()) rec=some (.aG [.int .i64 (Hj c (A 0).sum),.rs 4 (out.map iY.pv),.int .i64 0]):=by intro out rec;have R4:((l8 A).map Rs.pv)[(0:Int).toNat+0]?=some (rJ (A 0)).pv:=Dn A (by omega);unfold lv;dsimp only;rw[IS (by simp),R4];simp[U,rs1,Mh,aaV,aI,Xp]
 intro m;induction m with
 |zero=>
  intro i N out h1 h2 h3 h4 hN;have:i=rs.length:=by omega
  subst this;cases N with
  |zero=>omega
  |succ N=>simp only[cE];rw[tV,hA.top,atf]
 |succ m ih=>
  intro i N out h1 h2 h3 h4 hN;cases N with
  |zero=>omega
  |succ N=>
   simp only[cE];by_cases hi:i<rs.length
   ·obtain⟨k,p,v,k1,k2,k3,k4⟩:=(hA.hi i (by omega) hi).on h3;have R4:((l8 A).map Rs.pv)[(i:Int).toNat+0]?=some (rJ (A i)).pv:=Dn A (by omega);have hl:(rJ (A i)).l=(k:Int):=by unfold rJ;rw[k4]
    have ht:PV.agg [cell (rJ (A i)).pv 3,cell (rJ (A i)).pv 4,cell (rJ (A i)).pv 5,cell (rJ (A i)).pv 6]=iY.pv ⟨p,i,k,v⟩:=by unfold rJ;rw[k4];rfl
    have kY:al (i:Int) 9∧0<7:=by unfold al;omega
    unfold lv;dsimp only;rw[IN (by simp;omega),IN kY,R4];simp only[U,rs5];rw[IN (by grind [List.length_append,List.length_singleton,List.length_map,ah]),IN kY,hl,ab (by omega),ht,show out.map iY.pv++[iY.pv ⟨p,i,k,v⟩]=(out++[(⟨p,i,k,v⟩:iY)]).map iY.pv by simp];refine(ih (k+1) N (out++[(⟨p,i,k,v⟩:iY)]) (by omega) (by omega) k3 (by simp;omega) (by omega)).trans ?_;simp_all
   ·have:i=rs.length:=by omega
    subst this;rw[tV,hA.top,atf]
theorem ad4(hPo:P.length≤maxLen∧∀y∈P,y.Ok)(hf:(cJ P d w c).2=0)(hP:∀p∈P,POk p)(Vq:P.length≤16)(hn:rs.length≤8)(ho:∀y∈rs,IJ y):kP [dr P d w c,.rs 4 (rs.map Rd.pv)]=if(yK P rs d w).ok=true then some (.aG [.int .i64 (Hj c (yK P rs d w).sum),.rs 4 ((yK P rs d w).l.map iY.pv),.int .i64 0])else some (.aG [.int .i64 0,.rs 4 [],.int .i64 34]):=by
 have hdiv:=aaY (P:=P) (rs:=rs) (d:=d) (w:=w) (c:=c) hP Vq hn ho;have hTo:=EH (P:=P) (rs:=rs) (d:=d) (w:=w) rs.length (by omega);rw[aun]at hTo;unfold yK;generalize Hu P rs d w rs.length=A at*;have hl:=Sz A;have Na:cell (PV.agg (gy 7 ((l8 A).map Rs.pv))) 0=.bool (A 0).ok:=by have:=IL (l8 A) 0 0 (rJ (A 0)) rfl (by omega);show(gy 7 ((l8 A).map Rs.pv)).getD 0 .bad=_;rw[at0,show(0:Nat)=0*7+0 by rfl,this];show PV.bool (rJ (A 0)).ok=_;rw[LN]
 have TI:asAgg 63 (PV.agg (gy 7 ((l8 A).map Rs.pv)))=some ():=by rfl
 have ad5:fZ 7 9 (PV.agg (aQ 63 (PV.agg (gy 7 ((l8 A).map Rs.pv)))))=(l8 A).map Rs.pv:=by rfl
 have main:kP [dr P d w c,.rs 4 (rs.map Rd.pv)]=if(!(A 0).ok)=true then some (.aG [.int .i64 0,.rs 4 [],.int .i64 34])else bd.run (lv bd) (rs.map Rd.pv,0,P.map aM.pv,d,w,c,(l8 A).map Rs.pv,[],()):=by
  have hb:Ab.asBool (cell (PV.agg (gy 7 ((l8 A).map Rs.pv))) 0)=some (A 0).ok:=by rw[Na];rfl
  generalize PV.agg (gy 7 ((l8 A).map Rs.pv))=r at hdiv TI ad5 hb;have ahF:fZ 7 9 (PV.agg [cell r 0,cell r 1,cell r 2,cell r 3,cell r 4,cell r 5,cell r 6,cell r 7,cell r 8,cell r 9,cell r 10,cell r 11,cell r 12,cell r 13,cell r 14,cell r 15,cell r 16,cell r 17,cell r 18,cell r 19,cell r 20,cell r 21,cell r 22,cell r 23,cell r 24,cell r 25,cell r 26,cell r 27,cell r 28,cell r 29,cell r 30,cell r 31,cell r 32,cell r 33,cell r 34,cell r 35,cell r 36,cell r 37,cell r 38,cell r 39,cell r 40,cell r 41,cell r 42,cell r 43,cell r 44,cell r 45,cell r 46,cell r 47,cell r 48,cell r 49,cell r 50,cell r 51,cell r 52,cell r 53,cell r 54,cell r 55,cell r 56,cell r 57,cell r 58,cell r 59,cell r 60,cell r 61,cell r 62])=(l8 A).map Rs.pv:=ad5;simp only[kP,BF,Fm,Fo,Fq,Fs,Ft,aS,U,Mh,SA hPo hf hn,aI,hdiv,TI,hb,ahF];rfl
 rw[main];by_cases h:(A 0).ok=true
 ·rw[IS (by simp[h]),IN h,pM];have:=Qc (P:=P) (d:=d) (w:=w) (c:=c) hn A hTo rs.length 0 rounds [] (by omega) (by omega) h (by simp) (by unfold rounds;omega);simpa using this
 simp_all
end
def Dv.pv(x:Dv):PV:=.agg [.bool x.ok,.int .i64 x.sum,match x.l with|[]=>.rs 0 []|t::l=>.rs 4 ((t::l).map iY.pv)]
theorem dv0(x:Dv):Ab.asBool (cell x.pv 0)=some x.ok:=rfl
theorem dv1(x:Dv):Ab.asInt .i64 (cell x.pv 1)=some x.sum:=rfl
theorem dv2(x:Dv):ao 4 (cell x.pv 2)=some (x.l.map iY.pv):=by obtain⟨a,b,l⟩:=x;cases l<;>rfl
def ur(n:Nat)(A:Nat→Dv):List PV:=(List.range (n+1)).map fun j=>(A j).pv
theorem Hw(n:Nat)(A:Nat→Dv):(ur n A).length=n+1:=by simp[ur]
theorem Dq{n:Nat}(A:Nat→Dv){j:Nat}(h:j<n+1):(ur n A)[j]?=some (A j).pv:=by unfold ur;simp_all
theorem SB(n:Nat)(A:Nat→Dv)(i:Nat)(s:Dv):(ur n A).set i s.pv=ur n (put A i s):=by
 apply asB;intro j;unfold ur;rw[asU];by_cases h:j<n+1
 ·rw[AT,AT,as8 h];by_cases e:i=j
  ·subst e;rw[IN rfl,IN (by simp;omega)];simp[put_eq]
  simp_all[IS,wX,Ne.symm]
 simp_all
section
variable {P:List aM} {rs:List Rd} {d w c:Int}
theorem aaZ(x y:Dv)(s:Int):(x.ok&&(decide (s>x.sum)||(decide (s=x.sum)&&decide (1+(y.l.length:Int)≥(x.l.length:Int)))))= !(!x.ok||decide (s<x.sum)||(decide (s=x.sum)&&decide (y.l.length+1<x.l.length))):=by grind
theorem Vt(hP:∀p∈P,POk p)(Vq:P.length≤16)(hn:rs.length≤8)(ho:∀y∈rs,IJ y){i k:Nat}(hik:i≤k)(hk:k<rs.length)(A:Nat→Dv)(cur:Dv)(hyl:(A (k+1)).l.length≤8)(hyo:(A (k+1)).ok=true)(qD:ajS→Option PV):bd.run (qG bd qD) (rs.map Rd.pv,(i:Int),(k:Int),0,P.map aM.pv,d,w,c,ur rs.length (put A i cur),())=qD (rs.map Rd.pv,(i:Int),((k+1:Nat):Int),P.map aM.pv,d,w,c,ur rs.length (put A i (Cs P rs d w i k (A (k+1)) cur P.length)),()):=by
 refine bg (fun p=>(rs.map Rd.pv,(i:Int),(k:Int),(p:Int),P.map aM.pv,d,w,c,ur rs.length (put A i (Cs P rs d w i k (A (k+1)) cur p)),())) P.length (fun p hp rec=>?_) (fun rec=>?_) (by unfold rounds;omega) rfl
 ·have Nr:IntKind.i64.wrap ((k:Int)+1)=((k+1:Nat):Int):=ab (by omega);have hw2:IntKind.i64.wrap ((p:Int)+1)=((p+1:Nat):Int):=ab (by omega);generalize hx:Cs P rs d w i k (A (k+1)) cur p=x;have hu:Cs P rs d w i k (A (k+1)) cur (p+1)=Sw rs d w P[p] i k p (A (k+1)) x:=by rw[Cs,cN hp,hx]
  rw[hu];have Uv:=Dq (n:=rs.length) (put A i x) (show k+1<rs.length+1 by omega);rw[wX (show k+1≠i by omega)]at Uv;have R4:=Dq (n:=rs.length) (put A i x) (show i<rs.length+1 by omega);rw[put_eq]at R4;have rX:∀s,(ur rs.length (put A i x)).set i (Dv.pv s)=ur rs.length (put A i s):=fun s=>by rw[SB];congr 1;funext j;unfold put;split<;>rfl
  have hlen:=Hw rs.length (put A i x);have aai:al ((k+1:Nat):Int) (ur rs.length (put A i x)).length:=by unfold al;omega
  have aqE:al (i:Int) (ur rs.length (put A i x)).length:=by unfold al;omega
  generalize Vg:A (k+1)=y at*;have hw3:IntKind.i64.wrap (1+(y.l.length:Int))=1+(y.l.length:Int):=aZ (by omega) (by omega);unfold qG;dsimp only;rw[IN (by simp;omega),bn aM.pv P p hp];simp only[U,anp,Vk (hP _ (aqW hp)) hik hk hn ho,aB,Mh,Vo P d w c P[p] (show i<rs.length by omega) hn,aI,Nr,hw2,IN aai,IN aqE,are,Uv,R4,dv0,dv1,dv2,aJ,az,hw3,bT,AI];rw[IN (show(([].append (y.l.map iY.pv)).length.add 0).succ*32≤ah∧0<32 by have:([].append (y.l.map iY.pv):List PV)=y.l.map iY.pv:=rfl;grind [iY.pv,ah,List.length_map])];unfold Sw;rw[IN hyo];by_cases hcb:Su P[p] (cut rs i k)=true
  ·rw[IS (by simp[hcb]),IN hcb];have hb:=aaZ x y (IntKind.i64.wrap (tkP d w P[p] rs i+y.sum));rw[hb];have yq:(!x.ok||decide (IntKind.i64.wrap (tkP d w P[p] rs i+y.sum)<x.sum)||(decide (IntKind.i64.wrap (tkP d w P[p] rs i+y.sum)=x.sum)&&decide (y.l.length+1<x.l.length)))=btr (nwD rs d w P[p] i k p y) x:=by rfl
   rw[yq];by_cases hbt:btr (nwD rs d w P[p] i k p y) x=true
   ·rw[IS (by simp[hbt]),IN hbt,←rX (nwD rs d w P[p] i k p y)];rfl
   simp_all
  simp_all
 ·unfold qG;dsimp only;rw[IS (by simp),ab (by omega)]
theorem SC(hP:∀p∈P,POk p)(Vq:P.length≤16)(hn:rs.length≤8)(ho:∀y∈rs,IJ y){i:Nat}(hi:i<rs.length)(A:Nat→Dv)(hA:B8 rs.length A (i+1))(Qb:ajT→Option PV):bd.run (qH bd Qb) (rs.map Rd.pv,(i:Int),(i:Int),P.map aM.pv,d,w,c,ur rs.length A,())=Qb (rs.map Rd.pv,IntKind.i64.wrap ((i:Int)-1),P.map aM.pv,d,w,c,ur rs.length (put A i (EY P rs d w A i (rs.length-i))),()):=by
 refine bg (fun t=>(rs.map Rd.pv,(i:Int),((i+t:Nat):Int),P.map aM.pv,d,w,c,ur rs.length (put A i (EY P rs d w A i t)),())) (rs.length-i) (fun t ht rec=>?_) (fun rec=>?_) (by unfold rounds;omega) (by simp[EY,Sx])
 ·have Uv:=Dq (n:=rs.length) (put A i (EY P rs d w A i t)) (show i+t+1<rs.length+1 by omega);rw[wX (show i+t+1≠i by omega)]at Uv;have aai:al ((i+t+1:Nat):Int) (ur rs.length (put A i (EY P rs d w A i t))).length:=by unfold al;rw[Hw];omega
  have Nr:IntKind.i64.wrap (((i+t:Nat):Int)+1)=((i+t+1:Nat):Int):=ab (by omega);unfold qH;dsimp only;rw[IN (by simp;omega),Nr,IN aai,are,Uv];simp only[U,dv0];have hl:=hA.len (j:=i+t+1) (by omega) (by omega);by_cases hyb:(A (i+t+1)).ok=true
  ·rw[IS (by simp[hyb]),Vt hP Vq hn ho (show i≤i+t by omega) (by omega) A _ (by omega) hyb rec];rfl
  ·rw[IN (by simpa using hyb)];have:EY P rs d w A i (t+1)=EY P rs d w A i t:=by simp_all[Cs,EY,Mj]
   rw[this];rfl
 ·unfold qH;grind
theorem ajU(n:Nat):List.replicate (n+1) (PV.agg [.bool false,.int .i64 0,.rs 0 []])=ur n fun _=>dz:=by unfold ur;rw[List.map_const',auX];rfl
theorem aa0(hP:∀p∈P,POk p)(Vq:P.length≤16)(hn:rs.length≤8)(ho:∀y∈rs,IJ y):sY [dr P d w c,.rs 4 (rs.map Rd.pv)]=some (.aG [.int .i64 (yK P rs d w).sum,.rs 4 ((yK P rs d w).l.map iY.pv),.bool (yK P rs d w).ok]):=by
 have Nr:IntKind.i64.wrap ((rs.length:Int)+1)=((rs.length+1:Nat):Int):=ab (by omega);have eR:=Dq (n:=rs.length) (fun _=>dz) (show rs.length<rs.length+1 by omega);have kY:al (rs.length:Int) (ur rs.length fun _=>dz).length:=by unfold al;rw[Hw];omega
 simp only[sY,Dr,Fm,Fo,Fq,Fs,Ft,aS,U,AI,Nr,are,ajU];rw[IN (by grind [ah]),IN kY,eR];simp only[U,over];have hs:(ur rs.length fun _=>dz).set rs.length (PV.agg (PV.bool true::[cell dz.pv 1,cell dz.pv 2]))=ur rs.length (Hu P rs d w 0):=SB rs.length (fun _=>dz) rs.length ⟨true,0,[]⟩;rw[hs];refine bg (fun m=>(rs.map Rd.pv,(rs.length:Int)-1-(m:Int),P.map aM.pv,d,w,c,ur rs.length (Hu P rs d w m),())) rs.length (fun m hm rec=>?_) (fun rec=>?_) (by unfold rounds;omega) (by grind [aZ])
 ·unfold wZ;dsimp only;have hi:(rs.length:Int)-1-(m:Int)=((rs.length-(m+1):Nat):Int):=by omega
  have hT:=EH (P:=P) (rs:=rs) (d:=d) (w:=w) m (by omega);rw[show rs.length-m=rs.length-(m+1)+1 by omega]at hT;rw[IN (by simp;omega),hi,SC hP Vq hn ho (show rs.length-(m+1)<rs.length by omega) _ hT rec,aZ (by omega) (by omega),show((rs.length-(m+1):Nat):Int)-1=(rs.length:Int)-1-((m+1:Nat):Int) by omega,show rs.length-(rs.length-(m+1))=m+1 by omega];rfl
 ·have anq:al 0 (ur rs.length (Hu P rs d w rs.length)).length:=by unfold al;rw[Hw];omega
  have R4:=Dq (n:=rs.length) (Hu P rs d w rs.length) (show 0<rs.length+1 by omega);unfold wZ;dsimp only;rw[IS (by simp;omega),IN anq,show(0:Int).toNat=0 from rfl,R4];simp only[U,dv0,dv1,dv2,IN anq];rfl
end
theorem vS.aK{N:an}(h:vS N):(∀p∈N.aK,POk p)∧N.aK.length≤16:=by
 have h1:=h.parts.2.2;unfold cJ at h1;split at h1
 ·omega
 ·split at h1
  ·omega
  ·rename_i _ hle;refine⟨fun p hp=>?_,by omega⟩;obtain⟨k,hk,rfl⟩:=ats hp;have:=(se _ _).1 h1 k hk;unfold Hx at this;rw[cN hk]at this;simp only at this;split at this
   ·omega
   ·split at this
    ·omega
    ·split at this
     ·omega
     ·rename_i hb;unfold oq wi at hb;simp only[asz,asO,avy,Bool.not_eq_false,amm,cT]at hb;exact⟨⟨by omega,by omega⟩,⟨by omega,by omega⟩,by omega,by omega⟩
section
variable {N:an} {q:iI} {l:List bx}
theorem aa1(h:vS N)(hg:AJ N l):∀m k out,k+m=l.length→Ss l k out→∀y∈dU N (l.drop k) out,IJ y:=by
 intro m;induction m with
 |zero=>intro k out e hi;rw[show k=l.length by omega,as9];exact hi.ok
 |succ m ih=>
  intro k out e hi;have hk:k<l.length:=by omega
  rw[mX hk];exact ih (k+1) _ (by omega) (Gd h hg hk hi)
theorem Mk(h:vS N)(hg:AJ N l):∀y∈dU N l [],IJ y:=by have:=aa1 h hg l.length 0 [] (by omega) ⟨by simp,fun y hy=>by simp at hy,fun hh=>by cases hh⟩;simpa using this
theorem Vu{P:List aM}{d w c:Int}(hPo:P.length≤maxLen∧∀y∈P,aM.Ok y)(hf:(cJ P d w c).2=0){rs:List Rd}(hn:8<rs.length):kP [dr P d w c,.rs 4 (rs.map Rd.pv)]=some (.aG [.int .i64 0,.rs 4 [],.int .i64 33]):=by
 have hv:na [dr P d w c,.rs 4 (rs.map Rd.pv)]=some (.int .i64 33):=by simp only[na,BD,Fm,Fo,Fq,Fs,Ft,aS,U,Mh,BE P d w c hPo,AI,hf];simp[res,cn,Ab.asInt];omega
 simp only[kP,BF,Fm,Fo,Fq,Fs,Ft,aS,U,Mh,hv,aI];rfl
def gE(N:an)(l:List bx):Dv:=yK N.aK (dU N l []) N.bp N.within
def rL(N:an)(l:List bx):Int:=if 8<(dU N l []).length then 33 else if(gE N l).ok=true then 0 else 34
def PU(q:iI)(l:List bx):Int:=match l[0]? with|some x=>x.dep|none=>q.time
def PW(q:iI)(l:List bx):Int:=match l[l.length-1]? with|some x=>x.arr|none=>q.time
def pW(N:an)(q:iI)(l:List bx):PV:=if rL N l=0 then .aG [.agg [.int .i64 (PU q l),.int .i64 (PW q l),.int .i64 (dU N l []).length,.int .i64 (Hj N.cap (gE N l).sum),.int .i64 (Nb l 0)],.rs 4 ((gE N l).l.map iY.pv),.int .i64 0]else .aG [.agg [.int .i64 0,.int .i64 0,.int .i64 0,.int .i64 0,.int .i64 0],.rs 4 [],.int .i64 (rL N l)]
theorem ad6:PV.agg [.rs 6 (N.aK.map aM.pv),.int .i64 N.bp,.int .i64 N.within,.int .i64 N.cap]=dr N.aK N.bp N.within N.cap:=rfl
theorem t2(a b:PV):cn 2 (.aG [a,b])=some [a,b]:=rfl
theorem t3(a b c:PV):cn 3 (.aG [a,b,c])=some [a,b,c]:=rfl
theorem g5(a b c d e:PV):asAgg 5 (.agg [a,b,c,d,e])=some ():=rfl
theorem ON(hn:8<(dU N l []).length):pW N q l=.aG [.agg [.int .i64 0,.int .i64 0,.int .i64 0,.int .i64 0,.int .i64 0],.rs 4 [],.int .i64 33]:=by simp_all[rL,IN,pW,IS,decide]
theorem OO(hn:¬8<(dU N l []).length)(ho:¬(gE N l).ok=true):pW N q l=.aG [.agg [.int .i64 0,.int .i64 0,.int .i64 0,.int .i64 0,.int .i64 0],.rs 4 [],.int .i64 34]:=by simp_all[rL,IS,pW,decide]
theorem OP(hn:¬8<(dU N l []).length)(ho:(gE N l).ok=true):pW N q l=.aG [.agg [.int .i64 (PU q l),.int .i64 (PW q l),.int .i64 (dU N l []).length,.int .i64 (Hj N.cap (gE N l).sum),.int .i64 (Nb l 0)],.rs 4 ((gE N l).l.map iY.pv),.int .i64 0]:=by
 have:rL N l=0:=by simp_all[rL,IS,IN]
 unfold pW;rw[this,IN rfl]
theorem W4(h:vS N)(hg:AJ N l)(hl:l.length≤1000000)(ho:∀x∈l,x.Ok):fu [N.pv,q.pv,Kr l]=some (pW N q l):=by
 obtain⟨hP,Vq⟩:=h.aK;have ad7:=Mk h hg;have hPo:N.aK.length≤maxLen∧∀y∈N.aK,aM.Ok y:=⟨h.ok.aK.1,h.ok.aK.2⟩;have hf:=h.parts.2.2;simp only[fu,vn,ku,kv,kx,ky,kz,kA,kB,kC,kD,kE,zs,zt,zu,zw,zx,zy,zz,zA,zB,zC,zD,jA,j0,U,oN,jF,adY h hg hl,t2,O6,T1,aS,aI,ad6,AI];rw[IS (by simp)];by_cases hn:8<(dU N l []).length
 ·rw[Vu hPo hf hn,ON hn];rfl
 ·rw[ad4 (d:=N.bp) (w:=N.within) (c:=N.cap) hPo hf hP Vq (show(dU N l []).length≤8 by omega) ad7,show yK N.aK (dU N l []) N.bp N.within=gE N l from rfl];by_cases hk:(gE N l).ok=true
  ·rw[IN hk,OP hn hk];simp only[U,t3,O6,T1,aS,aI,Sq l hl ho];rw[IS (by simp)];unfold PU PW;by_cases hz:0<l.length
   ·rw[IN (by simp;omega),show dB (l.map bx.pv) 0=_ from bn bx.pv l 0 hz,aZ (by omega) (by omega),show(l.length:Int)-1=((l.length-1:Nat):Int) by omega,bn bx.pv l (l.length-1) (by omega),cN hz,cN (show l.length-1<l.length by omega)];rfl
   simp_all
  ·rw[IS hk,OO hn hk];rfl
theorem R5(h:vS N)(hg:AJ N l)(hl:l.length≤1000000)(ho:∀x∈l,x.Ok):nb [N.pv,q.pv,Kr l]=some (pW N q l):=by
 obtain⟨hP,Vq⟩:=h.aK;have ad7:=Mk h hg;simp only[nb,Gf,ku,kv,kx,ky,kz,kA,kB,kC,kD,kE,zs,zt,zu,zw,zx,zy,zz,zA,zB,zC,zD,jA,j0,U,oN,jF,aaS h hg hl,t2,O6,T1,aS,aI,ad6,AI];rw[IS (by simp)];by_cases hn:8<(dU N l []).length
 ·rw[IN (by simp;omega),ON hn]
 ·rw[IS (by simp;omega),aa0 (d:=N.bp) (w:=N.within) (c:=N.cap) hP Vq (show(dU N l []).length≤8 by omega) ad7,show yK N.aK (dU N l []) N.bp N.within=gE N l from rfl];simp only[U,t3,O6,T1,aS,aI,aB];by_cases hk:(gE N l).ok=true
  ·rw[IS (by simp[hk]),Vp,OP hn hk];simp only[U,aI,OJ l hl ho];unfold PU PW;by_cases hz:0<l.length
   ·rw[IN (by simp;omega),show dB (l.map bx.pv) 0=_ from bn bx.pv l 0 hz,aZ (by omega) (by omega),show(l.length:Int)-1=((l.length-1:Nat):Int) by omega,bn bx.pv l (l.length-1) (by omega),cN hz,cN (show l.length-1<l.length by omega)];rfl
   simp_all
  simp_all[IN,OO]
theorem OQ(N:an)(q:iI)(l:List bx):∃a b c d e ts,some (pW N q l)=some (.aG [.agg [.int .i64 a,.int .i64 b,.int .i64 c,.int .i64 d,.int .i64 e],.rs 4 ts,.int .i64 (rL N l)]):=by
 unfold pW;split
 ·simp_all
 simp
theorem ahC(h:vS N)(hg:AJ N l)(hl:l.length≤1000000)(ho:∀x∈l,x.Ok):∃a b c d e ts,fu [N.pv,q.pv,Kr l]=some (.aG [.agg [.int .i64 a,.int .i64 b,.int .i64 c,.int .i64 d,.int .i64 e],.rs 4 ts,.int .i64 (rL N l)]):=by rw[W4 h hg hl ho];exact OQ N q l
theorem ad1(h:vS N)(hg:AJ N l)(hl:l.length≤1000000)(ho:∀x∈l,x.Ok):∃a b c d e ts,nb [N.pv,q.pv,Kr l]=some (.aG [.agg [.int .i64 a,.int .i64 b,.int .i64 c,.int .i64 d,.int .i64 e],.rs 4 ts,.int .i64 (rL N l)]):=by rw[R5 h hg hl ho];exact OQ N q l
end
end Go.Ab.Tt
