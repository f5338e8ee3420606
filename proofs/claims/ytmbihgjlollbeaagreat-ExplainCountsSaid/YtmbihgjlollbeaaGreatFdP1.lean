import Derived.Test.YtmbihgjlollbeaaGreatFbP2
namespace Go.Ab.Tt
set_option maxRecDepth 100000
set_option linter.unusedVariables false
set_option linter.unusedSimpArgs false
structure Dv where
 ok:Bool
 sum:Int
 l:List mW
def dz:Dv:=⟨false,0,[]⟩
def wiB(a b d:Int):Bool:=decide (b≤a)||decide (IntKind.u64.wrap (IntKind.u64.wrap b-IntKind.u64.wrap a)≤IntKind.u64.wrap d)
theorem Oa(a b d:Int):pn [.int .i64 a,.int .i64 b,.int .i64 d]=some (.bool (wiB a b d)):=by simp[pn,xy,aI,aa,bh,wiB]
def tkP(d w:Int)(p:aV)(rs:List Rd):Nat→Int
 |0=>p.jy
 |i+1=>match rs[i]?,rs[i+1]? with
  |some a,some b=>if wiB a.arr b.dep w=true then(if IntKind.i64.wrap (p.jy-d)>0 then IntKind.i64.wrap (p.jy-d)else 0)else p.jy
  |_,_=>p.jy
theorem Sw(l:List aV)(d w c:Int)(p:aV){rs:List Rd}{i:Nat}(hi:i<rs.length)(hn:rs.length≤8):jj [fx l d w c,p.pv,.rs 4 (rs.map Rd.pv),.int .i64 (i:Int)]=some (.int .i64 (tkP d w p rs i)):=by
 simp only[jj,oN,FO,FP,FQ,FT,FU,aeE,aaZ,aa0,aa1,aa2,aa3,aa4,aS,aI,aa];cases i with
 |zero=>rfl
 |succ i=>rw[aky (show((i+1:Nat):Int)>0 by omega),oG i (by omega),bN Rd.pv rs i (by omega),bN Rd.pv rs (i+1) hi];simp only[cond_true,aa,aeD,ahP,Oa,aB,tkP,cO (show i<rs.length by omega),cO hi];grind
def nwD(rs:List Rd)(d w:Int)(x:aV)(i k p:Nat)(nx:Dv):Dv:=⟨true,IntKind.i64.wrap (tkP d w x rs i+nx.sum),⟨p,i,k,tkP d w x rs i⟩::nx.l⟩
def btr(n cur:Dv):Bool:= !cur.ok||decide (n.sum<cur.sum)||(decide (n.sum=cur.sum)&&decide (n.l.length<cur.l.length))
def VP(rs:List Rd)(d w:Int)(x:aV)(i k p:Nat)(nx cur:Dv):Dv:=if nx.ok=true then if VN x (cut rs i k)=true then if btr (nwD rs d w x i k p nx) cur=true then nwD rs d w x i k p nx else cur else cur else cur
def GL(P:List aV)(rs:List Rd)(d w:Int)(i k:Nat)(nx cur:Dv):Nat→Dv
 |0=>cur
 |p+1=>match P[p]? with
  |some x=>VP rs d w x i k p nx (GL P rs d w i k nx cur p)
  |none=>GL P rs d w i k nx cur p
def put(A:Nat→Dv)(i:Nat)(s:Dv):Nat→Dv:=fun j=>if j=i then s else A j
def Lw(P:List aV)(rs:List Rd)(d w:Int)(A:Nat→Dv)(i:Nat):Nat→Dv
 |0=>A i
 |t+1=>GL P rs d w i (i+t) (A (i+t+1)) (Lw P rs d w A i t) P.length
def GM(P:List aV)(rs:List Rd)(d w:Int):Nat→Nat→Dv
 |0=>put (fun _=>dz) rs.length ⟨true,0,[]⟩
 |m+1=>put (GM P rs d w m) (rs.length-(m+1)) (Lw P rs d w (GM P rs d w m) (rs.length-(m+1)) (m+1))
def zu(P:List aV)(rs:List Rd)(d w:Int):Dv:=GM P rs d w rs.length 0
theorem VQ(A:Nat→Dv)(i:Nat):put A i (A i)=A:=by funext j;unfold put;simp_all
theorem xz{A:Nat→Dv}{i j:Nat}{s:Dv}(h:j≠i):put A i s j=A j:=No h
theorem put_eq{A:Nat→Dv}{i:Nat}{s:Dv}:put A i s i=s:=GW rfl
structure Bn(n:Nat)(A:Nat→Dv)(i:Nat)(s:Dv):Prop where
 len:s.l.length≤n-i
 on:s.ok=true→∃(k p:Nat)(v:Int),i≤k∧k<n∧(A (k+1)).ok=true∧s.l=⟨p,i,k,v⟩::(A (k+1)).l
structure xA(n:Nat)(A:Nat→Dv)(i:Nat):Prop where
 hi:∀j,i≤j→j<n→Bn n A j (A j)
 top:A n=⟨true,0,[]⟩
 lo:∀j,j<i→A j=dz
section
variable {P:List aV} {rs:List Rd} {d w:Int}
theorem xA.len{n i:Nat}{A:Nat→Dv}(h:xA n A i){j:Nat}(h1:i≤j)(h2:j≤n):(A j).l.length≤n-j:=by
 by_cases e:j=n
 ·subst e;rw[h.top];simp
 ·exact(h.hi j h1 (by omega)).len
theorem ack{n i k p:Nat}{A:Nat→Dv}{x:aV}{cur:Dv}(h:xA n A (i+1))(hc:Bn n A i cur)(h1:i≤k)(h2:k<n):Bn n A i (VP rs d w x i k p (A (k+1)) cur):=by
 unfold VP;split
 ·rename_i hn;split
  ·split
   ·have:=h.len (j:=k+1) (by omega) (by omega);exact⟨by grind [nwD,List.length_cons],fun _=>⟨k,p,_,h1,h2,hn,rfl⟩⟩
   omega
  omega
 omega
theorem Jo{n i k:Nat}{A:Nat→Dv}{cur:Dv}(h:xA n A (i+1))(hc:Bn n A i cur)(h1:i≤k)(h2:k<n):∀p,Bn n A i (GL P rs d w i k (A (k+1)) cur p)
 |0=>hc
 |p+1=>by
  unfold GL;split
  ·exact ack h (Jo h hc h1 h2 p) h1 h2
  ·exact Jo h hc h1 h2 p
theorem P5{n i:Nat}{A:Nat→Dv}(h:xA n A (i+1)):∀t,i+t≤n→Bn n A i (Lw P rs d w A i t)
 |0,_=>by unfold Lw;rw[h.lo i (by omega)];exact⟨by simp[dz],fun h=>by cases h⟩
 |t+1,ht=>by unfold Lw;exact Jo h (P5 h t (by omega)) (by omega) (by omega) _
theorem acm{n i:Nat}{A:Nat→Dv}{s:Dv}(h:xA n A (i+1))(hs:Bn n A i s)(hi:i<n):xA n (put A i s) i:=by
 refine⟨fun j h1 h2=>?_,by rw[xz (by omega)];exact h.top,fun j hj=>by rw[xz (by omega)];exact h.lo j (by omega)⟩;have key:∀s',Bn n A j s'→Bn n (put A i s) j s':=fun s' hs'=>⟨hs'.len,fun ho=>by obtain⟨k,p,v,a1,a2,a3,a4⟩:=hs'.on ho;exact⟨k,p,v,a1,a2,by rw[xz (by omega)];exact a3,by rw[xz (by omega)];exact a4⟩⟩;by_cases e:j=i
 ·subst e;rw[put_eq];exact key _ hs
 ·rw[xz e];exact key _ (h.hi j (by omega) h2)
theorem Bo:∀m,m≤rs.length→xA rs.length (GM P rs d w m) (rs.length-m)
 |0,_=>⟨fun j h1 h2=>by omega,put_eq,fun j hj=>xz (by omega)⟩
 |m+1,hm=>by have h:=Bo m (by omega);rw[show rs.length-m=rs.length-(m+1)+1 by omega]at h;exact acm h (P5 h (m+1) (by omega)) (by omega)
theorem VR{n:Nat}{A:Nat→Dv}(h:xA n A 0):∀m i,n-i≤m→i≤n→(A i).ok=true→∀t∈(A i).l,0≤t.fst∧t.fst<n
 |0,i,h1,h2,_=>by
  have:i=n:=by omega
  subst this;rw[h.top];simp
 |m+1,i,h1,h2,ho=>by
  by_cases e:i=n
  ·subst e;rw[h.top];simp
  ·obtain⟨k,p,v,a1,a2,a3,a4⟩:=(h.hi i (by omega) (by omega)).on ho;rw[a4];intro t ht;rcases aih.1 ht with rfl|ht
   ·grind
   ·exact VR h m (k+1) (by omega) (by omega) a3 t ht
theorem Vm(ho:(zu P rs d w).ok=true):∀t∈(zu P rs d w).l,0≤t.fst∧t.fst<rs.length:=by have h:=Bo (P:=P) (rs:=rs) (d:=d) (w:=w) rs.length (by omega);rw[alE]at h;exact VR h rs.length 0 (by omega) (by omega) ho
theorem Sb:(zu P rs d w).l.length≤rs.length:=by have h:=Bo (P:=P) (rs:=rs) (d:=d) (w:=w) rs.length (by omega);rw[alE]at h;have:=h.len (j:=0) (by omega) (by omega);simpa[zu]using this
end
def GK(c s:Int):Int:=if c>0∧s>c then c else s
theorem Sx(l:List aV)(d w c s:Int):po [fx l d w c,.int .i64 s]=some (.int .i64 (GK c s)):=by simp only[po,xB,FO,FP,FQ,FT,FU,aI,aa,bE,GK];grind
structure Rs where
 ok:Bool
 sum:Int
 ZQ:Int
 p:Int
 f:Int
 l:Int
 jy:Int
def Rs.pv(x:Rs):PV:=.agg [.bool x.ok,.int .i64 x.sum,.int .i64 x.ZQ,.int .i64 x.p,.int .i64 x.f,.int .i64 x.l,.int .i64 x.jy]
theorem rsA(x:Rs):asAgg 7 x.pv=some ():=rfl
theorem rs0(x:Rs):Ab.asBool (cell x.pv 0)=some x.ok:=rfl
theorem rs1(x:Rs):Ab.asInt .i64 (cell x.pv 1)=some x.sum:=rfl
theorem rs2(x:Rs):Ab.asInt .i64 (cell x.pv 2)=some x.ZQ:=rfl
theorem rs5(x:Rs):Ab.asInt .i64 (cell x.pv 5)=some x.l:=rfl
theorem Gw(x:Rs):PV.agg [cell x.pv 0,cell x.pv 1,cell x.pv 2,cell x.pv 3,cell x.pv 4,cell x.pv 5,cell x.pv 6]=x.pv:=rfl
theorem Sy(x:Rs)(s c:Int):jl [x.pv,.int .i64 s,.int .i64 c]=some (.bool (!x.ok||decide (s<x.sum)||(decide (s=x.sum)&&decide (c<x.ZQ)))):=by have h3:Ab.asInt .i64 (cell x.pv 3)=some x.p:=rfl;have h4:Ab.asInt .i64 (cell x.pv 4)=some x.f:=rfl;have h6:Ab.asInt .i64 (cell x.pv 6)=some x.jy:=rfl;simp only[jl,oO,rsA,rs0,rs1,rs2,h3,h4,rs5,h6,aI,aa,bh,bE,jw]
def ov(s:Dv):Rs:=match s.l with
 |[]=>⟨s.ok,s.sum,0,0,0,0,0⟩
 |t::r=>⟨s.ok,s.sum,((r.length+1:Nat):Int),t.prod,t.fst,t.lst,t.jy⟩
theorem Fi(s:Dv):(ov s).ok=s.ok:=by unfold ov;split<;>rfl
theorem P6(s:Dv):(ov s).sum=s.sum:=by unfold ov;split<;>rfl
theorem P7(s:Dv):(ov s).ZQ=(s.l.length:Int):=by unfold ov;grind
def j7(A:Nat→Dv):List Rs:=(List.range 9).map fun j=>ov (A j)
theorem xC(A:Nat→Dv){j:Nat}(h:j<9):((j7 A).map Rs.pv)[j]?=some (ov (A j)).pv:=by unfold j7;simp_all
theorem Lx(A:Nat→Dv)(i:Nat)(s:Dv):((j7 A).map Rs.pv).set i (ov s).pv=(j7 (put A i s)).map Rs.pv:=by
 apply ajw;intro j;unfold j7;rw[ajW];by_cases h:j<9
 ·rw[IN,IN,IN,IN,akA h];by_cases e:i=j
  ·subst e;rw[GW rfl,GW (by simp;omega)];simp[put_eq]
  simp_all[No,xz,Ne.symm]
 simp_all
theorem Ly(A:Nat→Dv):(j7 A).length=9:=by rfl
section
variable {P:List aV} {rs:List Rd} {d w c:Int}
theorem Sz(hP:∀p∈P,POk p)(hPl:P.length≤16)(hn:rs.length≤8)(ho:∀y∈rs,Jn y){i k:Nat}(Yq:i≤k)(hk:k<rs.length)(T4:List PV)(A:Nat→Dv)(cur:Dv)(hy:(A (k+1)).l.length≤8)(Bp:acn→Option PV):bn.run (nK bn Bp) ((rs.length:Int),(i:Int),(k:Int),((P.map aV.pv).length:Int),0,P.map aV.pv,d,w,c,T4,(j7 (put A i cur)).map Rs.pv,rs.map Rd.pv,())=Bp ((rs.length:Int),(i:Int),((k+1:Nat):Int),P.map aV.pv,d,w,c,T4,(j7 (put A i (GL P rs d w i k (A (k+1)) cur P.length))).map Rs.pv,rs.map Rd.pv,()):=by
 have ahT:List.drop i (List.take (k+1) (rs.map Rd.pv))=(cut rs i k).map Rd.pv:=by simp[cut,List.map_drop,ak9]
 refine aZ (fun p=>((rs.length:Int),(i:Int),(k:Int),((P.map aV.pv).length:Int),(p:Int),P.map aV.pv,d,w,c,T4,(j7 (put A i (GL P rs d w i k (A (k+1)) cur p))).map Rs.pv,rs.map Rd.pv,())) P.length (fun p hp rec=>?_) (fun rec=>?_) (by unfold rounds;omega) rfl
 ·have pR:∀m:Nat,m<9→au (m:Int) 9∧0<7:=fun m hm=>by unfold au;omega
  have M5:IntKind.i64.wrap ((k:Int)+1)=((k+1:Nat):Int):=al (by omega);have hw2:IntKind.i64.wrap ((p:Int)+1)=((p+1:Nat):Int):=al (by omega);generalize hx:GL P rs d w i k (A (k+1)) cur p=x;have hu:GL P rs d w i k (A (k+1)) cur (p+1)=VP rs d w P[p] i k p (A (k+1)) x:=by rw[GL,cO hp,hx]
  rw[hu];have Y0:=xC (put A i x) (show k+1<9 by omega);rw[xz (show k+1≠i by omega)]at Y0;have Tw:=xC (put A i x) (show i<9 by omega);rw[put_eq]at Tw;have sL:∀s,((j7 (put A i x)).map Rs.pv).set i (ov s).pv=(j7 (put A i s)).map Rs.pv:=fun s=>by rw[Lx];congr 2;funext j;unfold put;split<;>rfl
  generalize P3:A (k+1)=y at*;have hcn:IntKind.i64.wrap ((ov y).ZQ+1)=((y.l.length+1:Nat):Int):=by grind [P7,al]
  unfold nK;dsimp only;rw[GW (by simp;omega),M5,hw2,GW (pR (k+1) (by omega)),ajk,akt,Y0,bN aV.pv P p hp];simp only[aa,rs0,ahS,ajk,akt,ahT,N8 (hP _ (ajm hp)) Yq hk hn ho,aB,HX,Y0,Tw,rs1,rs2,Gw,Fi,Sw P d w c P[p] (show i<rs.length by omega) hn,aI,Sy,hcn];rw[GW (show 0≤(i:Int)∧(i:Int)≤((k+1:Nat):Int)∧((k+1:Nat):Int)≤((rs.map Rd.pv).length:Int)∧True∧4≠0 by grind)];simp only[GW (pR (k+1) (by omega)),GW (pR i (by omega)),P6,P7];unfold VP;by_cases hyb:y.ok=true
  ·rw[GW hyb,GW hyb];by_cases hcb:VN P[p] (cut rs i k)=true
   ·rw[No (by simp[hcb]),GW hcb];have hb:(!x.ok||decide (IntKind.i64.wrap (tkP d w P[p] rs i+y.sum)<x.sum)||(decide (IntKind.i64.wrap (tkP d w P[p] rs i+y.sum)=x.sum)&&decide (((y.l.length+1:Nat):Int)<(x.l.length:Int))))=btr (nwD rs d w P[p] i k p y) x:=by grind [btr,nwD,List.length_cons,Int.ofNat_lt]
    rw[hb];by_cases hbt:btr (nwD rs d w P[p] i k p y) x=true
    ·rw[GW hbt,GW hbt,←sL (nwD rs d w P[p] i k p y)];rfl
    simp_all
   simp_all
  simp_all
 ·unfold nK;dsimp only;rw[No (by simp),al (by omega)]
theorem Ob(hP:∀p∈P,POk p)(hPl:P.length≤16)(hn:rs.length≤8)(ho:∀y∈rs,Jn y){i:Nat}(hi:i<rs.length)(T4:List PV)(A:Nat→Dv)(hA:xA rs.length A (i+1))(ZR:aco→Option PV):bn.run (nL bn ZR) ((rs.length:Int),(i:Int),(i:Int),P.map aV.pv,d,w,c,T4,(j7 A).map Rs.pv,rs.map Rd.pv,())=ZR ((rs.length:Int),IntKind.i64.wrap ((i:Int)-1),P.map aV.pv,d,w,c,T4,(j7 (put A i (Lw P rs d w A i (rs.length-i)))).map Rs.pv,rs.map Rd.pv,()):=by
 refine aZ (fun t=>((rs.length:Int),(i:Int),((i+t:Nat):Int),P.map aV.pv,d,w,c,T4,(j7 (put A i (Lw P rs d w A i t))).map Rs.pv,rs.map Rd.pv,())) (rs.length-i) (fun t ht rec=>?_) (fun rec=>?_) (by unfold rounds;omega) (by simp[Lw,VQ])
 ·unfold nL;dsimp only;rw[GW (by simp;omega)];have hl:=hA.len (j:=i+t+1) (by omega) (by omega);exact Sz hP hPl hn ho (by omega) (by omega) T4 A _ (by omega) rec
 ·unfold nL;grind
theorem ahU:fk 7 9 (PV.agg [.bool false,.int .i64 0,.int .i64 0,.int .i64 0,.int .i64 0,.int .i64 0,.int .i64 0,.bool false,.int .i64 0,.int .i64 0,.int .i64 0,.int .i64 0,.int .i64 0,.int .i64 0,.bool false,.int .i64 0,.int .i64 0,.int .i64 0,.int .i64 0,.int .i64 0,.int .i64 0,.bool false,.int .i64 0,.int .i64 0,.int .i64 0,.int .i64 0,.int .i64 0,.int .i64 0,.bool false,.int .i64 0,.int .i64 0,.int .i64 0,.int .i64 0,.int .i64 0,.int .i64 0,.bool false,.int .i64 0,.int .i64 0,.int .i64 0,.int .i64 0,.int .i64 0,.int .i64 0,.bool false,.int .i64 0,.int .i64 0,.int .i64 0,.int .i64 0,.int .i64 0,.int .i64 0,.bool false,.int .i64 0,.int .i64 0,.int .i64 0,.int .i64 0,.int .i64 0,.int .i64 0,.bool false,.int .i64 0,.int .i64 0,.int .i64 0,.int .i64 0,.int .i64 0,.int .i64 0])=(j7 fun _=>dz).map Rs.pv:=rfl
theorem VS(T:List Rs):(fN 7 (T.map Rs.pv)).length=T.length*7:=by rw[B6,BY]
theorem Co:∀(T:List Rs)(i j:Nat)(x:Rs),T[i]?=some x→j<7→(fN 7 (T.map Rs.pv))[i*7+j]?=some (cell x.pv j)
 |[],i,j,x,h,_=>by simp at h
 |y::T,0,j,x,h,hj=>by
  simp only[ajK,cN]at h;subst h;have e:fN 7 ((y::T).map Rs.pv)=aC 7 y.pv++fN 7 (T.map Rs.pv):=rfl;rw[e,aj4 (by rw[aW];omega),ei (show y.pv.cells.length=7 from rfl)];match j,hj with
  |0,_=>rfl
  |1,_=>rfl
  |2,_=>rfl
  |3,_=>rfl
  |4,_=>rfl
  |5,_=>rfl
  |6,_=>rfl
  |n+7,h=>omega
 |y::T,i+1,j,x,h,hj=>by have e:fN 7 ((y::T).map Rs.pv)=aC 7 y.pv++fN 7 (T.map Rs.pv):=rfl;rw[e,ajX (by rw[aW];omega),aW,show(i+1)*7+j-7=i*7+j by omega];simp_all[Co]
theorem Oc(T:List Rs)(n:Nat)(hn:T.length=n):fk 7 n (.agg (fN 7 (T.map Rs.pv)))=T.map Rs.pv:=by
 apply ajw;intro i;unfold fk;rw[IN,IN];by_cases hi:i<n
 ·obtain⟨x,hx⟩:∃x,T[i]?=some x:=⟨_,cO (by omega)⟩;rw[hx,akA hi];simp only[ajg,cN];have hc:∀j,j<7→cell (.agg (fN 7 (T.map Rs.pv))) (i*7+j)=cell x.pv j:=fun j hj=>by show(fN 7 (T.map Rs.pv)).getD (i*7+j) .bad=_;rw[akY,Co T i j x hx hj];rfl
  show PV.agg [cell _ (i*7),cell _ (i*7+1),cell _ (i*7+2),cell _ (i*7+3),cell _ (i*7+4),cell _ (i*7+5),cell _ (i*7+6)]=_;have h0:=hc 0 (by omega);simp_all[akt,Gw]
 simp_all
theorem SA(hP:∀p∈P,POk p)(hPl:P.length≤16)(hn:rs.length≤8)(ho:∀y∈rs,Jn y):pq [fx P d w c,.rs 4 (rs.map Rd.pv)]=some (.agg (fN 7 ((j7 (GM P rs d w rs.length)).map Rs.pv))):=by
 have pR:au (rs.length:Int) 9∧0<7:=by unfold au;omega
 have hz:=xC (fun _=>dz) (show rs.length<9 by omega);simp only[pq,xD,FO,FP,FQ,FT,FU,aS,aa,BY];rw[GW pR,ahU,ajk,akt,hz];simp only[aa,over];have hs:((j7 fun _=>dz).map Rs.pv).set rs.length (PV.agg (PV.bool true::[cell (ov dz).pv 1,cell (ov dz).pv 2,cell (ov dz).pv 3,cell (ov dz).pv 4,cell (ov dz).pv 5,cell (ov dz).pv 6]))=(j7 (GM P rs d w 0)).map Rs.pv:=Lx (fun _=>dz) rs.length ⟨true,0,[]⟩;rw[hs];refine aZ (fun m=>((rs.length:Int),(rs.length:Int)-1-(m:Int),P.map aV.pv,d,w,c,(j7 fun _=>dz).map Rs.pv,(j7 (GM P rs d w m)).map Rs.pv,rs.map Rd.pv,())) rs.length (fun m hm rec=>?_) (fun rec=>?_) (by unfold rounds;omega) (by grind [aY])
 ·unfold sg;dsimp only;have hi:(rs.length:Int)-1-(m:Int)=((rs.length-(m+1):Nat):Int):=by omega
  have hT:=Bo (P:=P) (rs:=rs) (d:=d) (w:=w) m (by omega);rw[show rs.length-m=rs.length-(m+1)+1 by omega]at hT;rw[GW (by simp;omega),hi,Ob hP hPl hn ho (show rs.length-(m+1)<rs.length by omega) _ _ hT rec,aY (by omega) (by omega),show((rs.length-(m+1):Nat):Int)-1=(rs.length:Int)-1-((m+1:Nat):Int) by omega,show rs.length-(rs.length-(m+1))=m+1 by omega];rfl
 ·have hl:=Ly (GM P rs d w rs.length);generalize j7 (GM P rs d w rs.length)=T at*;unfold sg;dsimp only;have h63:(T.map Rs.pv).length*7=63:=by rw[BY,hl]
  have My:asAgg 63 (PV.agg (fN 7 (T.map Rs.pv)))=some ():=by simp_all[fN,Rs.pv,VS,asAgg,GW]
  rw[No (by simp;omega),GW h63,My];simp only[aa];have hlr:((j7 fun _=>dz).map Rs.pv).length=9:=by rfl
  simp_all[GW,decide,Oc]
end
section
variable {P:List aV} {rs:List Rd} {d w c:Int}
theorem Lz(hPo:P.length≤maxLen∧∀y∈P,y.Ok)(hf:(kV P d w c).2=0)(hn:rs.length≤8):kX [fx P d w c,.rs 4 (rs.map Rd.pv)]=some (.int .i64 0):=by simp only[kX,vA,FO,FP,FQ,FT,FU,aS,aa,HX,vB P d w c hPo,BY,hf];simp only[res,dq,ajj,ajs,IS,aa,ajf,ajh,aI];grind
theorem Jp(hn:rs.length≤8)(A:Nat→Dv)(hA:xA rs.length A 0):∀(m i N:Nat)(out:List mW),rs.length-i≤m→i≤rs.length→(A i).ok=true→out.length≤i→m<N→cA (jD bn) N (rs.map Rd.pv,(i:Int),P.map aV.pv,d,w,c,(j7 A).map Rs.pv,out.map mW.pv,())=some (.aP [.int .i64 (GK c (A 0).sum),.rs 4 ((out++(A i).l).map mW.pv),.int .i64 0]):=by
 have rr:∀(out:List mW)rec,jD bn (rs.map Rd.pv,(rs.length:Int),P.map aV.pv,d,w,c,(j7 A).map Rs.pv,out.map mW.pv,()) rec=some (.aP [.int .i64 (GK c (A 0).sum),.rs 4 (out.map mW.pv),.int .i64 0]):=by intro out rec;have Tw:((j7 A).map Rs.pv)[(0:Int).toNat+0]?=some (ov (A 0)).pv:=xC A (by omega);unfold jD;dsimp only;rw[No (by simp),Tw];simp[aa,rs1,HX,Sx,aI,P6]
 intro m;induction m with
 |zero=>
  intro i N out h1 h2 h3 h4 hN;have:i=rs.length:=by omega
  subst this;cases N with
  |zero=>omega
  |succ N=>simp only[cA];rw[rr,hA.top,akl]
 |succ m ih=>
  intro i N out h1 h2 h3 h4 hN;cases N with
  |zero=>omega
  |succ N=>
   simp only[cA];by_cases hi:i<rs.length
   ·obtain⟨k,p,v,k1,k2,k3,k4⟩:=(hA.hi i (by omega) hi).on h3;have Tw:((j7 A).map Rs.pv)[(i:Int).toNat+0]?=some (ov (A i)).pv:=xC A (by omega);have hl:(ov (A i)).l=(k:Int):=by unfold ov;rw[k4]
    have ht:PV.agg [cell (ov (A i)).pv 3,cell (ov (A i)).pv 4,cell (ov (A i)).pv 5,cell (ov (A i)).pv 6]=mW.pv ⟨p,i,k,v⟩:=by unfold ov;rw[k4];rfl
    have pR:au (i:Int) 9∧0<7:=by unfold au;omega
    unfold jD;dsimp only;rw[GW (by simp;omega),GW pR,Tw];simp only[aa,rs5];rw[GW (by grind [List.length_append,List.length_singleton,List.length_map,ah]),GW pR,hl,al (by omega),ht,show out.map mW.pv++[mW.pv ⟨p,i,k,v⟩]=(out++[(⟨p,i,k,v⟩:mW)]).map mW.pv by simp];refine(ih (k+1) N (out++[(⟨p,i,k,v⟩:mW)]) (by omega) (by omega) k3 (by simp;omega) (by omega)).trans ?_;simp_all
   ·have:i=rs.length:=by omega
    subst this;rw[rr,hA.top,akl]
theorem VT(hPo:P.length≤maxLen∧∀y∈P,y.Ok)(hf:(kV P d w c).2=0)(hP:∀p∈P,POk p)(hPl:P.length≤16)(hn:rs.length≤8)(ho:∀y∈rs,Jn y):jm [fx P d w c,.rs 4 (rs.map Rd.pv)]=if(zu P rs d w).ok=true then some (.aP [.int .i64 (GK c (zu P rs d w).sum),.rs 4 ((zu P rs d w).l.map mW.pv),.int .i64 0])else some (.aP [.int .i64 0,.rs 4 [],.int .i64 34]):=by
 have hdiv:=SA (P:=P) (rs:=rs) (d:=d) (w:=w) (c:=c) hP hPl hn ho;have hTo:=Bo (P:=P) (rs:=rs) (d:=d) (w:=w) rs.length (by omega);rw[alE]at hTo;unfold zu;generalize GM P rs d w rs.length=A at*;have hl:=Ly A;have Kv:cell (PV.agg (fN 7 ((j7 A).map Rs.pv))) 0=.bool (A 0).ok:=by have:=Co (j7 A) 0 0 (ov (A 0)) rfl (by omega);show(fN 7 ((j7 A).map Rs.pv)).getD 0 .bad=_;rw[akY,show(0:Nat)=0*7+0 by rfl,this];show PV.bool (ov (A 0)).ok=_;rw[Fi]
 have My:asAgg 63 (PV.agg (fN 7 ((j7 A).map Rs.pv)))=some ():=by rfl
 have VU:fk 7 9 (PV.agg (aC 63 (PV.agg (fN 7 ((j7 A).map Rs.pv)))))=(j7 A).map Rs.pv:=by rfl
 have main:jm [fx P d w c,.rs 4 (rs.map Rd.pv)]=if(!(A 0).ok)=true then some (.aP [.int .i64 0,.rs 4 [],.int .i64 34])else bn.run (jD bn) (rs.map Rd.pv,0,P.map aV.pv,d,w,c,(j7 A).map Rs.pv,[],()):=by
  have hb:Ab.asBool (cell (PV.agg (fN 7 ((j7 A).map Rs.pv))) 0)=some (A 0).ok:=by rw[Kv];rfl
  generalize PV.agg (fN 7 ((j7 A).map Rs.pv))=r at hdiv My VU hb;have ZS:fk 7 9 (PV.agg [cell r 0,cell r 1,cell r 2,cell r 3,cell r 4,cell r 5,cell r 6,cell r 7,cell r 8,cell r 9,cell r 10,cell r 11,cell r 12,cell r 13,cell r 14,cell r 15,cell r 16,cell r 17,cell r 18,cell r 19,cell r 20,cell r 21,cell r 22,cell r 23,cell r 24,cell r 25,cell r 26,cell r 27,cell r 28,cell r 29,cell r 30,cell r 31,cell r 32,cell r 33,cell r 34,cell r 35,cell r 36,cell r 37,cell r 38,cell r 39,cell r 40,cell r 41,cell r 42,cell r 43,cell r 44,cell r 45,cell r 46,cell r 47,cell r 48,cell r 49,cell r 50,cell r 51,cell r 52,cell r 53,cell r 54,cell r 55,cell r 56,cell r 57,cell r 58,cell r 59,cell r 60,cell r 61,cell r 62])=(j7 A).map Rs.pv:=VU;simp only[jm,vC,FO,FP,FQ,FT,FU,aS,aa,HX,Lz hPo hf hn,aI,hdiv,My,hb,ZS];rfl
 rw[main];by_cases h:(A 0).ok=true
 ·rw[No (by simp[h]),GW h,nd];have:=Jp (P:=P) (d:=d) (w:=w) (c:=c) hn A hTo rs.length 0 rounds [] (by omega) (by omega) h (by simp) (by unfold rounds;omega);simpa using this
 simp_all
end
def Dv.pv(x:Dv):PV:=.agg [.bool x.ok,.int .i64 x.sum,match x.l with|[]=>.rs 0 []|t::l=>.rs 4 ((t::l).map mW.pv)]
section
variable {P:List aV} {rs:List Rd} {d w c:Int}
end
theorem wh.ba{N:ae}(h:wh N):(∀p∈N.ba,POk p)∧N.ba.length≤16:=by
 have h1:=h.parts.2.2;unfold kV at h1;split at h1
 ·omega
 ·split at h1
  ·omega
  ·rename_i _ hle;refine⟨fun p hp=>?_,by omega⟩;obtain⟨k,hk,rfl⟩:=akq hp;have:=(oI _ _).1 h1 k hk;unfold Jq at this;rw[cO hk]at this;simp only at this;split at this
   ·omega
   ·split at this
    ·omega
    ·split at this
     ·omega
     ·rename_i hb;unfold DW wi at hb;simp only[ajt,ajN,ami,Bool.not_eq_false,OF,AT]at hb;exact⟨⟨by omega,by omega⟩,⟨by omega,by omega⟩,by omega,by omega⟩
section
variable {N:ae} {q:gm} {l:List bp}
theorem SB(h:wh N)(hg:A4 N l):∀m k out,k+m=l.length→P2 l k out→∀y∈fS N (l.drop k) out,Jn y:=by
 intro m;induction m with
 |zero=>intro k out e hi;rw[show k=l.length by omega,akP];exact hi.ok
 |succ m ih=>
  intro k out e hi;have hk:k<l.length:=by omega
  rw[vw hk];exact ih (k+1) _ (by omega) (FM h hg hk hi)
theorem Od(h:wh N)(hg:A4 N l):∀y∈fS N l [],Jn y:=by have:=SB h hg l.length 0 [] (by omega) ⟨by simp,fun y hy=>by simp at hy,fun hh=>by cases hh⟩;simpa using this
theorem Oe{P:List aV}{d w c:Int}(hPo:P.length≤maxLen∧∀y∈P,aV.Ok y)(hf:(kV P d w c).2=0){rs:List Rd}(hn:8<rs.length):jm [fx P d w c,.rs 4 (rs.map Rd.pv)]=some (.aP [.int .i64 0,.rs 4 [],.int .i64 33]):=by
 have hv:kX [fx P d w c,.rs 4 (rs.map Rd.pv)]=some (.int .i64 33):=by simp only[kX,vA,FO,FP,FQ,FT,FU,aS,aa,HX,vB P d w c hPo,BY,hf];simp[res,dq,Ab.asInt];omega
 simp only[jm,vC,FO,FP,FQ,FT,FU,aS,aa,HX,hv,aI];rfl
def kr(N:ae)(l:List bp):Dv:=zu N.ba (fS N l []) N.bY N.within
def s9(N:ae)(l:List bp):Int:=if 8<(fS N l []).length then 33 else if(kr N l).ok=true then 0 else 34
def R8(q:gm)(l:List bp):Int:=match l[0]? with|some x=>x.dep|none=>q.time
def R9(q:gm)(l:List bp):Int:=match l[l.length-1]? with|some x=>x.arr|none=>q.time
def rY(N:ae)(q:gm)(l:List bp):PV:=if s9 N l=0 then .aP [.agg [.int .i64 (R8 q l),.int .i64 (R9 q l),.int .i64 (fS N l []).length,.int .i64 (GK N.cap (kr N l).sum),.int .i64 (NF l 0)],.rs 4 ((kr N l).l.map mW.pv),.int .i64 0]else .aP [.agg [.int .i64 0,.int .i64 0,.int .i64 0,.int .i64 0,.int .i64 0],.rs 4 [],.int .i64 (s9 N l)]
theorem acp:PV.agg [.rs 6 (N.ba.map aV.pv),.int .i64 N.bY,.int .i64 N.within,.int .i64 N.cap]=fx N.ba N.bY N.within N.cap:=rfl
theorem t2(a b:PV):dq 2 (.aP [a,b])=some [a,b]:=rfl
theorem t3(a b c:PV):dq 3 (.aP [a,b,c])=some [a,b,c]:=rfl
theorem g5(a b c d e:PV):asAgg 5 (.agg [a,b,c,d,e])=some ():=rfl
theorem SC(hn:8<(fS N l []).length):rY N q l=.aP [.agg [.int .i64 0,.int .i64 0,.int .i64 0,.int .i64 0,.int .i64 0],.rs 4 [],.int .i64 33]:=by simp_all[s9,GW,rY,No,decide]
theorem SD(hn:¬8<(fS N l []).length)(ho:¬(kr N l).ok=true):rY N q l=.aP [.agg [.int .i64 0,.int .i64 0,.int .i64 0,.int .i64 0,.int .i64 0],.rs 4 [],.int .i64 34]:=by simp_all[s9,No,rY,decide]
theorem SE(hn:¬8<(fS N l []).length)(ho:(kr N l).ok=true):rY N q l=.aP [.agg [.int .i64 (R8 q l),.int .i64 (R9 q l),.int .i64 (fS N l []).length,.int .i64 (GK N.cap (kr N l).sum),.int .i64 (NF l 0)],.rs 4 ((kr N l).l.map mW.pv),.int .i64 0]:=by
 have:s9 N l=0:=by simp_all[s9,No,GW]
 unfold rY;rw[this,GW rfl]
theorem PJ(h:wh N)(hg:A4 N l)(hl:l.length≤1000000)(ho:∀x∈l,x.Ok):eG [N.pv,q.pv,PN l]=some (rY N q l):=by
 obtain⟨hP,hPl⟩:=h.ba;have aeG:=Od h hg;have hPo:N.ba.length≤maxLen∧∀y∈N.ba,aV.Ok y:=⟨h.ok.ba.1,h.ok.ba.2⟩;have hf:=h.parts.2.2;simp only[eG,qO,A8,A9,Ba,Bb,Bc,Bd,Be,Bf,Bg,Bh,Sc,Sd,Se,Sf,Sg,Si,Sj,Sk,Sl,Sn,Sq,jA,j0,aa,La,jF,VM h hg hl,t2,ajf,ajh,aS,aI,acp,BY];rw[No (by simp)];by_cases hn:8<(fS N l []).length
 ·rw[Oe hPo hf hn,SC hn];rfl
 ·rw[VT (d:=N.bY) (w:=N.within) (c:=N.cap) hPo hf hP hPl (show(fS N l []).length≤8 by omega) aeG,show zu N.ba (fS N l []) N.bY N.within=kr N l from rfl];by_cases hk:(kr N l).ok=true
  ·rw[GW hk,SE hn hk];simp only[aa,t3,ajf,ajh,aS,aI,Ll l hl ho];rw[No (by simp)];unfold R8 R9;by_cases hz:0<l.length
   ·rw[GW (by simp;omega),show fM (l.map bp.pv) 0=_ from bN bp.pv l 0 hz,aY (by omega) (by omega),show(l.length:Int)-1=((l.length-1:Nat):Int) by omega,bN bp.pv l (l.length-1) (by omega),cO hz,cO (show l.length-1<l.length by omega)];rfl
   simp_all
  ·rw[No hk,SD hn hk];rfl
theorem SF(N:ae)(q:gm)(l:List bp):∃a b c d e ts,some (rY N q l)=some (.aP [.agg [.int .i64 a,.int .i64 b,.int .i64 c,.int .i64 d,.int .i64 e],.rs 4 ts,.int .i64 (s9 N l)]):=by
 unfold rY;split
 ·simp_all
 simp
theorem ZP(h:wh N)(hg:A4 N l)(hl:l.length≤1000000)(ho:∀x∈l,x.Ok):∃a b c d e ts,eG [N.pv,q.pv,PN l]=some (.aP [.agg [.int .i64 a,.int .i64 b,.int .i64 c,.int .i64 d,.int .i64 e],.rs 4 ts,.int .i64 (s9 N l)]):=by rw[PJ h hg hl ho];exact SF N q l
end
end Go.Ab.Tt
