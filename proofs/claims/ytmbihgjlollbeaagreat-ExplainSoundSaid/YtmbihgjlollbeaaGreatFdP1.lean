import Derived.Test.YtmbihgjlollbeaaGreatFbP2
namespace Go.Ab.Tt
set_option maxRecDepth 100000
set_option linter.all false
structure Dv where
 ok:Bool
 sum:Int
 l:List oG
def dz:Dv:=⟨false,0,[]⟩
def wiB(a b d:Int):Bool:=decide (b≤a)||decide (IntKind.u64.wrap (IntKind.u64.wrap b-IntKind.u64.wrap a)≤IntKind.u64.wrap d)
theorem O7(a b d:Int):pH [.int .i64 a,.int .i64 b,.int .i64 d]=some (.bool (wiB a b d)):=by simp[pH,yn,aI,U,bf,wiB]
def tkP(d w:Int)(p:aR)(rs:List Rd):Nat→Int
 |0=>p.jU
 |i+1=>match rs[i]?,rs[i+1]? with
  |some a,some b=>if wiB a.arr b.dep w=true then(if IntKind.i64.wrap (p.jU-d)>0 then IntKind.i64.wrap (p.jU-d)else 0)else p.jU
  |_,_=>p.jU
theorem TF(l:List aR)(d w c:Int)(p:aR){rs:List Rd}{i:Nat}(hi:i<rs.length)(hn:rs.length≤8):jt [fE l d w c,p.pv,.rs 4 (rs.map Rd.pv),.int .i64 (i:Int)]=some (.int .i64 (tkP d w p rs i)):=by
 simp only[jt,pe,Gm,Gn,Gp,Gq,Gs,afD,acm,acn,aco,acp,acq,acr,aS,aI,U];cases i with
 |zero=>rfl
 |succ i=>rw[alY (show((i+1:Nat):Int)>0 by omega),rM i (by omega),bS Rd.pv rs i (by omega),bS Rd.pv rs (i+1) hi];simp only[cond_true,U,afC,aiL,O7,aB,tkP,cN (show i<rs.length by omega),cN hi];grind
def nwD(rs:List Rd)(d w:Int)(x:aR)(i k p:Nat)(nx:Dv):Dv:=⟨true,IntKind.i64.wrap (tkP d w x rs i+nx.sum),⟨p,i,k,tkP d w x rs i⟩::nx.l⟩
def btr(n cur:Dv):Bool:= !cur.ok||decide (n.sum<cur.sum)||(decide (n.sum=cur.sum)&&decide (n.l.length<cur.l.length))
def Tn(rs:List Rd)(d w:Int)(x:aR)(i k p:Nat)(nx cur:Dv):Dv:=if nx.ok=true then if WW x (cut rs i k)=true then if btr (nwD rs d w x i k p nx) cur=true then nwD rs d w x i k p nx else cur else cur else cur
def DY(P:List aR)(rs:List Rd)(d w:Int)(i k:Nat)(nx cur:Dv):Nat→Dv
 |0=>cur
 |p+1=>match P[p]? with
  |some x=>Tn rs d w x i k p nx (DY P rs d w i k nx cur p)
  |none=>DY P rs d w i k nx cur p
def put(A:Nat→Dv)(i:Nat)(s:Dv):Nat→Dv:=fun j=>if j=i then s else A j
def JG(P:List aR)(rs:List Rd)(d w:Int)(A:Nat→Dv)(i:Nat):Nat→Dv
 |0=>A i
 |t+1=>DY P rs d w i (i+t) (A (i+t+1)) (JG P rs d w A i t) P.length
def F2(P:List aR)(rs:List Rd)(d w:Int):Nat→Nat→Dv
 |0=>put (fun _=>dz) rs.length ⟨true,0,[]⟩
 |m+1=>put (F2 P rs d w m) (rs.length-(m+1)) (JG P rs d w (F2 P rs d w m) (rs.length-(m+1)) (m+1))
def zX(P:List aR)(rs:List Rd)(d w:Int):Dv:=F2 P rs d w rs.length 0
theorem WY(A:Nat→Dv)(i:Nat):put A i (A i)=A:=by funext j;unfold put;simp_all
theorem yo{A:Nat→Dv}{i j:Nat}{s:Dv}(h:j≠i):put A i s j=A j:=IS h
theorem put_eq{A:Nat→Dv}{i:Nat}{s:Dv}:put A i s i=s:=AI rfl
structure BG(n:Nat)(A:Nat→Dv)(i:Nat)(s:Dv):Prop where
 len:s.l.length≤n-i
 on:s.ok=true→∃(k p:Nat)(v:Int),i≤k∧k<n∧(A (k+1)).ok=true∧s.l=⟨p,i,k,v⟩::(A (k+1)).l
structure yp(n:Nat)(A:Nat→Dv)(i:Nat):Prop where
 hi:∀j,i≤j→j<n→BG n A j (A j)
 top:A n=⟨true,0,[]⟩
 lo:∀j,j<i→A j=dz
section
variable {P:List aR} {rs:List Rd} {d w:Int}
theorem yp.len{n i:Nat}{A:Nat→Dv}(h:yp n A i){j:Nat}(h1:i≤j)(h2:j≤n):(A j).l.length≤n-j:=by
 by_cases e:j=n
 ·subst e;rw[h.top];simp
 ·exact(h.hi j h1 (by omega)).len
theorem adz{n i k p:Nat}{A:Nat→Dv}{x:aR}{cur:Dv}(h:yp n A (i+1))(hc:BG n A i cur)(h1:i≤k)(h2:k<n):BG n A i (Tn rs d w x i k p (A (k+1)) cur):=by
 unfold Tn;split
 ·rename_i hn;split
  ·split
   ·have:=h.len (j:=k+1) (by omega) (by omega);exact⟨by grind [nwD,List.length_cons],fun _=>⟨k,p,_,h1,h2,hn,rfl⟩⟩
   omega
  omega
 omega
theorem JZ{n i k:Nat}{A:Nat→Dv}{cur:Dv}(h:yp n A (i+1))(hc:BG n A i cur)(h1:i≤k)(h2:k<n):∀p,BG n A i (DY P rs d w i k (A (k+1)) cur p)
 |0=>hc
 |p+1=>by
  unfold DY;split
  ·exact adz h (JZ h hc h1 h2 p) h1 h2
  ·exact JZ h hc h1 h2 p
theorem Q8{n i:Nat}{A:Nat→Dv}(h:yp n A (i+1)):∀t,i+t≤n→BG n A i (JG P rs d w A i t)
 |0,_=>by unfold JG;rw[h.lo i (by omega)];exact⟨by simp[dz],fun h=>by cases h⟩
 |t+1,ht=>by unfold JG;exact JZ h (Q8 h t (by omega)) (by omega) (by omega) _
theorem adA{n i:Nat}{A:Nat→Dv}{s:Dv}(h:yp n A (i+1))(hs:BG n A i s)(hi:i<n):yp n (put A i s) i:=by
 refine⟨fun j h1 h2=>?_,by rw[yo (by omega)];exact h.top,fun j hj=>by rw[yo (by omega)];exact h.lo j (by omega)⟩;have key:∀s',BG n A j s'→BG n (put A i s) j s':=fun s' hs'=>⟨hs'.len,fun ho=>by obtain⟨k,p,v,a1,a2,a3,a4⟩:=hs'.on ho;exact⟨k,p,v,a1,a2,by rw[yo (by omega)];exact a3,by rw[yo (by omega)];exact a4⟩⟩;by_cases e:j=i
 ·subst e;rw[put_eq];exact key _ hs
 ·rw[yo e];exact key _ (h.hi j (by omega) h2)
theorem BH:∀m,m≤rs.length→yp rs.length (F2 P rs d w m) (rs.length-m)
 |0,_=>⟨fun j h1 h2=>by omega,put_eq,fun j hj=>yo (by omega)⟩
 |m+1,hm=>by have h:=BH m (by omega);rw[show rs.length-m=rs.length-(m+1)+1 by omega]at h;exact adA h (Q8 h (m+1) (by omega)) (by omega)
theorem WZ{n:Nat}{A:Nat→Dv}(h:yp n A 0):∀m i,n-i≤m→i≤n→(A i).ok=true→∀t∈(A i).l,0≤t.fst∧t.fst<n
 |0,i,h1,h2,_=>by
  have:i=n:=by omega
  subst this;rw[h.top];simp
 |m+1,i,h1,h2,ho=>by
  by_cases e:i=n
  ·subst e;rw[h.top];simp
  ·obtain⟨k,p,v,a1,a2,a3,a4⟩:=(h.hi i (by omega) (by omega)).on ho;rw[a4];intro t ht;rcases ake.1 ht with rfl|ht
   ·grind
   ·exact WZ h m (k+1) (by omega) (by omega) a3 t ht
theorem Wq(ho:(zX P rs d w).ok=true):∀t∈(zX P rs d w).l,0≤t.fst∧t.fst<rs.length:=by have h:=BH (P:=P) (rs:=rs) (d:=d) (w:=w) rs.length (by omega);rw[amt]at h;exact WZ h rs.length 0 (by omega) (by omega) ho
theorem Tl:(zX P rs d w).l.length≤rs.length:=by have h:=BH (P:=P) (rs:=rs) (d:=d) (w:=w) rs.length (by omega);rw[amt]at h;have:=h.len (j:=0) (by omega) (by omega);simpa[zX]using this
end
def Hc(c s:Int):Int:=if c>0∧s>c then c else s
theorem TG(l:List aR)(d w c s:Int):pI [fE l d w c,.int .i64 s]=some (.int .i64 (Hc c s)):=by simp only[pI,yq,Gm,Gn,Gp,Gq,Gs,aI,U,bF,Hc];grind
structure Rs where
 ok:Bool
 sum:Int
 cnt:Int
 p:Int
 f:Int
 l:Int
 jU:Int
def Rs.pv(x:Rs):PV:=.agg [.bool x.ok,.int .i64 x.sum,.int .i64 x.cnt,.int .i64 x.p,.int .i64 x.f,.int .i64 x.l,.int .i64 x.jU]
theorem rsA(x:Rs):asAgg 7 x.pv=some ():=rfl
theorem rs0(x:Rs):Ab.asBool (cell x.pv 0)=some x.ok:=rfl
theorem rs1(x:Rs):Ab.asInt .i64 (cell x.pv 1)=some x.sum:=rfl
theorem rs2(x:Rs):Ab.asInt .i64 (cell x.pv 2)=some x.cnt:=rfl
theorem rs5(x:Rs):Ab.asInt .i64 (cell x.pv 5)=some x.l:=rfl
theorem G2(x:Rs):PV.agg [cell x.pv 0,cell x.pv 1,cell x.pv 2,cell x.pv 3,cell x.pv 4,cell x.pv 5,cell x.pv 6]=x.pv:=rfl
theorem TH(x:Rs)(s c:Int):ju [x.pv,.int .i64 s,.int .i64 c]=some (.bool (!x.ok||decide (s<x.sum)||(decide (s=x.sum)&&decide (c<x.cnt)))):=by have h3:Ab.asInt .i64 (cell x.pv 3)=some x.p:=rfl;have h4:Ab.asInt .i64 (cell x.pv 4)=some x.f:=rfl;have h6:Ab.asInt .i64 (cell x.pv 6)=some x.jU:=rfl;simp only[ju,pf,rsA,rs0,rs1,rs2,h3,h4,rs5,h6,aI,U,bf,bF,iG]
def oI(s:Dv):Rs:=match s.l with
 |[]=>⟨s.ok,s.sum,0,0,0,0,0⟩
 |t::r=>⟨s.ok,s.sum,((r.length+1:Nat):Int),t.prod,t.fst,t.lst,t.jU⟩
theorem FK(s:Dv):(oI s).ok=s.ok:=by unfold oI;split<;>rfl
theorem Q9(s:Dv):(oI s).sum=s.sum:=by unfold oI;split<;>rfl
theorem Ra(s:Dv):(oI s).cnt=(s.l.length:Int):=by unfold oI;grind
def ko(A:Nat→Dv):List Rs:=(List.range 9).map fun j=>oI (A j)
theorem yr(A:Nat→Dv){j:Nat}(h:j<9):((ko A).map Rs.pv)[j]?=some (oI (A j)).pv:=by unfold ko;simp_all
theorem Md(A:Nat→Dv)(i:Nat)(s:Dv):((ko A).map Rs.pv).set i (oI s).pv=(ko (put A i s)).map Rs.pv:=by
 apply aks;intro j;unfold ko;rw[akQ];by_cases h:j<9
 ·rw[IT,IT,IT,IT,alq h];by_cases e:i=j
  ·subst e;rw[AI rfl,AI (by simp;omega)];simp[put_eq]
  simp_all[IS,yo,Ne.symm]
 simp_all
theorem Me(A:Nat→Dv):(ko A).length=9:=by rfl
section
variable {P:List aR} {rs:List Rd} {d w c:Int}
theorem TI(hP:∀p∈P,POk p)(hPl:P.length≤16)(hn:rs.length≤8)(ho:∀y∈rs,JY y){i k:Nat}(Zv:i≤k)(hk:k<rs.length)(T4:List PV)(A:Nat→Dv)(cur:Dv)(hy:(A (k+1)).l.length≤8)(BI:adB→Option PV):bk.run (nW bk BI) ((rs.length:Int),(i:Int),(k:Int),((P.map aR.pv).length:Int),0,P.map aR.pv,d,w,c,T4,(ko (put A i cur)).map Rs.pv,rs.map Rd.pv,())=BI ((rs.length:Int),(i:Int),((k+1:Nat):Int),P.map aR.pv,d,w,c,T4,(ko (put A i (DY P rs d w i k (A (k+1)) cur P.length))).map Rs.pv,rs.map Rd.pv,()):=by
 have aiP:List.drop i (List.take (k+1) (rs.map Rd.pv))=(cut rs i k).map Rd.pv:=by simp[cut,amJ,al8]
 refine ba (fun p=>((rs.length:Int),(i:Int),(k:Int),((P.map aR.pv).length:Int),(p:Int),P.map aR.pv,d,w,c,T4,(ko (put A i (DY P rs d w i k (A (k+1)) cur p))).map Rs.pv,rs.map Rd.pv,())) P.length (fun p hp rec=>?_) (fun rec=>?_) (by unfold rounds;omega) rfl
 ·have qk:∀m:Nat,m<9→an (m:Int) 9∧0<7:=fun m hm=>by unfold an;omega
  have NM:IntKind.i64.wrap ((k:Int)+1)=((k+1:Nat):Int):=aj (by omega);have hw2:IntKind.i64.wrap ((p:Int)+1)=((p+1:Nat):Int):=aj (by omega);generalize hx:DY P rs d w i k (A (k+1)) cur p=x;have hu:DY P rs d w i k (A (k+1)) cur (p+1)=Tn rs d w P[p] i k p (A (k+1)) x:=by rw[DY,cN hp,hx]
  rw[hu];have Z2:=yr (put A i x) (show k+1<9 by omega);rw[yo (show k+1≠i by omega)]at Z2;have Uz:=yr (put A i x) (show i<9 by omega);rw[put_eq]at Uz;have qY:∀s,((ko (put A i x)).map Rs.pv).set i (oI s).pv=(ko (put A i s)).map Rs.pv:=fun s=>by rw[Md];congr 2;funext j;unfold put;split<;>rfl
  generalize Q6:A (k+1)=y at*;have hcn:IntKind.i64.wrap ((oI y).cnt+1)=((y.l.length+1:Nat):Int):=by grind [Ra,aj]
  unfold nW;dsimp only;rw[AI (by simp;omega),NM,hw2,AI (qk (k+1) (by omega)),akc,alp,Z2,bS aR.pv P p hp];simp only[U,rs0,aiO,akc,alp,aiP,O5 (hP _ (aki hp)) Zv hk hn ho,aB,Iv,Z2,Uz,rs1,rs2,G2,FK,TF P d w c P[p] (show i<rs.length by omega) hn,aI,TH,hcn];rw[AI (show 0≤(i:Int)∧(i:Int)≤((k+1:Nat):Int)∧((k+1:Nat):Int)≤((rs.map Rd.pv).length:Int)∧True∧4≠0 by grind)];simp only[AI (qk (k+1) (by omega)),AI (qk i (by omega)),Q9,Ra];unfold Tn;by_cases hyb:y.ok=true
  ·rw[AI hyb,AI hyb];by_cases hcb:WW P[p] (cut rs i k)=true
   ·rw[IS (by simp[hcb]),AI hcb];have hb:(!x.ok||decide (IntKind.i64.wrap (tkP d w P[p] rs i+y.sum)<x.sum)||(decide (IntKind.i64.wrap (tkP d w P[p] rs i+y.sum)=x.sum)&&decide (((y.l.length+1:Nat):Int)<(x.l.length:Int))))=btr (nwD rs d w P[p] i k p y) x:=by grind [btr,nwD,List.length_cons,Int.ofNat_lt]
    rw[hb];by_cases hbt:btr (nwD rs d w P[p] i k p y) x=true
    ·rw[AI hbt,AI hbt,←qY (nwD rs d w P[p] i k p y)];rfl
    simp_all
   simp_all
  simp_all
 ·unfold nW;dsimp only;rw[IS (by simp),aj (by omega)]
theorem O8(hP:∀p∈P,POk p)(hPl:P.length≤16)(hn:rs.length≤8)(ho:∀y∈rs,JY y){i:Nat}(hi:i<rs.length)(T4:List PV)(A:Nat→Dv)(hA:yp rs.length A (i+1))(aa7:adC→Option PV):bk.run (nX bk aa7) ((rs.length:Int),(i:Int),(i:Int),P.map aR.pv,d,w,c,T4,(ko A).map Rs.pv,rs.map Rd.pv,())=aa7 ((rs.length:Int),IntKind.i64.wrap ((i:Int)-1),P.map aR.pv,d,w,c,T4,(ko (put A i (JG P rs d w A i (rs.length-i)))).map Rs.pv,rs.map Rd.pv,()):=by
 refine ba (fun t=>((rs.length:Int),(i:Int),((i+t:Nat):Int),P.map aR.pv,d,w,c,T4,(ko (put A i (JG P rs d w A i t))).map Rs.pv,rs.map Rd.pv,())) (rs.length-i) (fun t ht rec=>?_) (fun rec=>?_) (by unfold rounds;omega) (by simp[JG,WY])
 ·unfold nX;dsimp only;rw[AI (by simp;omega)];have hl:=hA.len (j:=i+t+1) (by omega) (by omega);exact TI hP hPl hn ho (by omega) (by omega) T4 A _ (by omega) rec
 ·unfold nX;grind
theorem aiQ:fu 7 9 (PV.agg [.bool false,.int .i64 0,.int .i64 0,.int .i64 0,.int .i64 0,.int .i64 0,.int .i64 0,.bool false,.int .i64 0,.int .i64 0,.int .i64 0,.int .i64 0,.int .i64 0,.int .i64 0,.bool false,.int .i64 0,.int .i64 0,.int .i64 0,.int .i64 0,.int .i64 0,.int .i64 0,.bool false,.int .i64 0,.int .i64 0,.int .i64 0,.int .i64 0,.int .i64 0,.int .i64 0,.bool false,.int .i64 0,.int .i64 0,.int .i64 0,.int .i64 0,.int .i64 0,.int .i64 0,.bool false,.int .i64 0,.int .i64 0,.int .i64 0,.int .i64 0,.int .i64 0,.int .i64 0,.bool false,.int .i64 0,.int .i64 0,.int .i64 0,.int .i64 0,.int .i64 0,.int .i64 0,.bool false,.int .i64 0,.int .i64 0,.int .i64 0,.int .i64 0,.int .i64 0,.int .i64 0,.bool false,.int .i64 0,.int .i64 0,.int .i64 0,.int .i64 0,.int .i64 0,.int .i64 0])=(ko fun _=>dz).map Rs.pv:=rfl
theorem W0(T:List Rs):(fS 7 (T.map Rs.pv)).length=T.length*7:=by rw[Cm,BY]
theorem CG:∀(T:List Rs)(i j:Nat)(x:Rs),T[i]?=some x→j<7→(fS 7 (T.map Rs.pv))[i*7+j]?=some (cell x.pv j)
 |[],i,j,x,h,_=>by simp at h
 |y::T,0,j,x,h,hj=>by
  simp only[akG,cO]at h;subst h;have e:fS 7 ((y::T).map Rs.pv)=aC 7 y.pv++fS 7 (T.map Rs.pv):=rfl;rw[e,ak1 (by rw[aW];omega),er (show y.pv.cells.length=7 from rfl)];match j,hj with
  |0,_=>rfl
  |1,_=>rfl
  |2,_=>rfl
  |3,_=>rfl
  |4,_=>rfl
  |5,_=>rfl
  |6,_=>rfl
  |n+7,h=>omega
 |y::T,i+1,j,x,h,hj=>by have e:fS 7 ((y::T).map Rs.pv)=aC 7 y.pv++fS 7 (T.map Rs.pv):=rfl;rw[e,akX (by rw[aW];omega),aW,show(i+1)*7+j-7=i*7+j by omega];simp_all[CG]
theorem O9(T:List Rs)(n:Nat)(hn:T.length=n):fu 7 n (.agg (fS 7 (T.map Rs.pv)))=T.map Rs.pv:=by
 apply aks;intro i;unfold fu;rw[IT,IT];by_cases hi:i<n
 ·obtain⟨x,hx⟩:∃x,T[i]?=some x:=⟨_,cN (by omega)⟩;rw[hx,alq hi];simp only[akb,cO];have hc:∀j,j<7→cell (.agg (fS 7 (T.map Rs.pv))) (i*7+j)=cell x.pv j:=fun j hj=>by show(fS 7 (T.map Rs.pv)).getD (i*7+j) .bad=_;rw[alV,CG T i j x hx hj];rfl
  show PV.agg [cell _ (i*7),cell _ (i*7+1),cell _ (i*7+2),cell _ (i*7+3),cell _ (i*7+4),cell _ (i*7+5),cell _ (i*7+6)]=_;have h0:=hc 0 (by omega);simp_all[alp,G2]
 simp_all
theorem TJ(hP:∀p∈P,POk p)(hPl:P.length≤16)(hn:rs.length≤8)(ho:∀y∈rs,JY y):pJ [fE P d w c,.rs 4 (rs.map Rd.pv)]=some (.agg (fS 7 ((ko (F2 P rs d w rs.length)).map Rs.pv))):=by
 have qk:an (rs.length:Int) 9∧0<7:=by unfold an;omega
 have hz:=yr (fun _=>dz) (show rs.length<9 by omega);simp only[pJ,yt,Gm,Gn,Gp,Gq,Gs,aS,U,BY];rw[AI qk,aiQ,akc,alp,hz];simp only[U,over];have hs:((ko fun _=>dz).map Rs.pv).set rs.length (PV.agg (PV.bool true::[cell (oI dz).pv 1,cell (oI dz).pv 2,cell (oI dz).pv 3,cell (oI dz).pv 4,cell (oI dz).pv 5,cell (oI dz).pv 6]))=(ko (F2 P rs d w 0)).map Rs.pv:=Md (fun _=>dz) rs.length ⟨true,0,[]⟩;rw[hs];refine ba (fun m=>((rs.length:Int),(rs.length:Int)-1-(m:Int),P.map aR.pv,d,w,c,(ko fun _=>dz).map Rs.pv,(ko (F2 P rs d w m)).map Rs.pv,rs.map Rd.pv,())) rs.length (fun m hm rec=>?_) (fun rec=>?_) (by unfold rounds;omega) (by grind [aY])
 ·unfold sR;dsimp only;have hi:(rs.length:Int)-1-(m:Int)=((rs.length-(m+1):Nat):Int):=by omega
  have hT:=BH (P:=P) (rs:=rs) (d:=d) (w:=w) m (by omega);rw[show rs.length-m=rs.length-(m+1)+1 by omega]at hT;rw[AI (by simp;omega),hi,O8 hP hPl hn ho (show rs.length-(m+1)<rs.length by omega) _ _ hT rec,aY (by omega) (by omega),show((rs.length-(m+1):Nat):Int)-1=(rs.length:Int)-1-((m+1:Nat):Int) by omega,show rs.length-(rs.length-(m+1))=m+1 by omega];rfl
 ·have hl:=Me (F2 P rs d w rs.length);generalize ko (F2 P rs d w rs.length)=T at*;unfold sR;dsimp only;have h63:(T.map Rs.pv).length*7=63:=by rw[BY,hl]
  have M9:asAgg 63 (PV.agg (fS 7 (T.map Rs.pv)))=some ():=by simp_all[fS,Rs.pv,W0,asAgg,AI]
  rw[IS (by simp;omega),AI h63,M9];simp only[U];have hlr:((ko fun _=>dz).map Rs.pv).length=9:=by rfl
  simp_all[AI,decide,O9]
end
section
variable {P:List aR} {rs:List Rd} {d w c:Int}
theorem Mf(hPo:P.length≤maxLen∧∀y∈P,y.Ok)(hf:(jY P d w c).2=0)(hn:rs.length≤8):ll [fE P d w c,.rs 4 (rs.map Rd.pv)]=some (.int .i64 0):=by simp only[ll,vV,Gm,Gn,Gp,Gq,Gs,aS,U,Iv,vW P d w c hPo,BY,hf];simp only[res,dn,akd,akm,Ko,U,ajc,aka,aI];grind
theorem J0(hn:rs.length≤8)(A:Nat→Dv)(hA:yp rs.length A 0):∀(m i N:Nat)(out:List oG),rs.length-i≤m→i≤rs.length→(A i).ok=true→out.length≤i→m<N→cg (jJ bk) N (rs.map Rd.pv,(i:Int),P.map aR.pv,d,w,c,(ko A).map Rs.pv,out.map oG.pv,())=some (.aO [.int .i64 (Hc c (A 0).sum),.rs 4 ((out++(A i).l).map oG.pv),.int .i64 0]):=by
 have rZ:∀(out:List oG)rec,jJ bk (rs.map Rd.pv,(rs.length:Int),P.map aR.pv,d,w,c,(ko A).map Rs.pv,out.map oG.pv,()) rec=some (.aO [.int .i64 (Hc c (A 0).sum),.rs 4 (out.map oG.pv),.int .i64 0]):=by intro out rec;have Uz:((ko A).map Rs.pv)[(0:Int).toNat+0]?=some (oI (A 0)).pv:=yr A (by omega);unfold jJ;dsimp only;rw[IS (by simp),Uz];simp[U,rs1,Iv,TG,aI,Q9]
 intro m;induction m with
 |zero=>
  intro i N out h1 h2 h3 h4 hN;have:i=rs.length:=by omega
  subst this;cases N with
  |zero=>omega
  |succ N=>simp only[cg];rw[rZ,hA.top,akP]
 |succ m ih=>
  intro i N out h1 h2 h3 h4 hN;cases N with
  |zero=>omega
  |succ N=>
   simp only[cg];by_cases hi:i<rs.length
   ·obtain⟨k,p,v,k1,k2,k3,k4⟩:=(hA.hi i (by omega) hi).on h3;have Uz:((ko A).map Rs.pv)[(i:Int).toNat+0]?=some (oI (A i)).pv:=yr A (by omega);have hl:(oI (A i)).l=(k:Int):=by unfold oI;rw[k4]
    have ht:PV.agg [cell (oI (A i)).pv 3,cell (oI (A i)).pv 4,cell (oI (A i)).pv 5,cell (oI (A i)).pv 6]=oG.pv ⟨p,i,k,v⟩:=by unfold oI;rw[k4];rfl
    have qk:an (i:Int) 9∧0<7:=by unfold an;omega
    unfold jJ;dsimp only;rw[AI (by simp;omega),AI qk,Uz];simp only[U,rs5];rw[AI (by grind [List.length_append,List.length_singleton,List.length_map,ae]),AI qk,hl,aj (by omega),ht,show out.map oG.pv++[oG.pv ⟨p,i,k,v⟩]=(out++[(⟨p,i,k,v⟩:oG)]).map oG.pv by simp];refine(ih (k+1) N (out++[(⟨p,i,k,v⟩:oG)]) (by omega) (by omega) k3 (by simp;omega) (by omega)).trans ?_;simp_all
   ·have:i=rs.length:=by omega
    subst this;rw[rZ,hA.top,akP]
theorem W2(hPo:P.length≤maxLen∧∀y∈P,y.Ok)(hf:(jY P d w c).2=0)(hP:∀p∈P,POk p)(hPl:P.length≤16)(hn:rs.length≤8)(ho:∀y∈rs,JY y):jw [fE P d w c,.rs 4 (rs.map Rd.pv)]=if(zX P rs d w).ok=true then some (.aO [.int .i64 (Hc c (zX P rs d w).sum),.rs 4 ((zX P rs d w).l.map oG.pv),.int .i64 0])else some (.aO [.int .i64 0,.rs 4 [],.int .i64 34]):=by
 have hdiv:=TJ (P:=P) (rs:=rs) (d:=d) (w:=w) (c:=c) hP hPl hn ho;have hTo:=BH (P:=P) (rs:=rs) (d:=d) (w:=w) rs.length (by omega);rw[amt]at hTo;unfold zX;generalize F2 P rs d w rs.length=A at*;have hl:=Me A;have K7:cell (PV.agg (fS 7 ((ko A).map Rs.pv))) 0=.bool (A 0).ok:=by have:=CG (ko A) 0 0 (oI (A 0)) rfl (by omega);show(fS 7 ((ko A).map Rs.pv)).getD 0 .bad=_;rw[alV,show(0:Nat)=0*7+0 by rfl,this];show PV.bool (oI (A 0)).ok=_;rw[FK]
 have M9:asAgg 63 (PV.agg (fS 7 ((ko A).map Rs.pv)))=some ():=by rfl
 have W3:fu 7 9 (PV.agg (aC 63 (PV.agg (fS 7 ((ko A).map Rs.pv)))))=(ko A).map Rs.pv:=by rfl
 have main:jw [fE P d w c,.rs 4 (rs.map Rd.pv)]=if(!(A 0).ok)=true then some (.aO [.int .i64 0,.rs 4 [],.int .i64 34])else bk.run (jJ bk) (rs.map Rd.pv,0,P.map aR.pv,d,w,c,(ko A).map Rs.pv,[],()):=by
  have hb:Ab.asBool (cell (PV.agg (fS 7 ((ko A).map Rs.pv))) 0)=some (A 0).ok:=by rw[K7];rfl
  generalize PV.agg (fS 7 ((ko A).map Rs.pv))=r at hdiv M9 W3 hb;have aa8:fu 7 9 (PV.agg [cell r 0,cell r 1,cell r 2,cell r 3,cell r 4,cell r 5,cell r 6,cell r 7,cell r 8,cell r 9,cell r 10,cell r 11,cell r 12,cell r 13,cell r 14,cell r 15,cell r 16,cell r 17,cell r 18,cell r 19,cell r 20,cell r 21,cell r 22,cell r 23,cell r 24,cell r 25,cell r 26,cell r 27,cell r 28,cell r 29,cell r 30,cell r 31,cell r 32,cell r 33,cell r 34,cell r 35,cell r 36,cell r 37,cell r 38,cell r 39,cell r 40,cell r 41,cell r 42,cell r 43,cell r 44,cell r 45,cell r 46,cell r 47,cell r 48,cell r 49,cell r 50,cell r 51,cell r 52,cell r 53,cell r 54,cell r 55,cell r 56,cell r 57,cell r 58,cell r 59,cell r 60,cell r 61,cell r 62])=(ko A).map Rs.pv:=W3;simp only[jw,vX,Gm,Gn,Gp,Gq,Gs,aS,U,Iv,Mf hPo hf hn,aI,hdiv,M9,hb,aa8];rfl
 rw[main];by_cases h:(A 0).ok=true
 ·rw[IS (by simp[h]),AI h,mb];have:=J0 (P:=P) (d:=d) (w:=w) (c:=c) hn A hTo rs.length 0 rounds [] (by omega) (by omega) h (by simp) (by unfold rounds;omega);simpa using this
 simp_all
end
def Dv.pv(x:Dv):PV:=.agg [.bool x.ok,.int .i64 x.sum,match x.l with|[]=>.rs 0 []|t::l=>.rs 4 ((t::l).map oG.pv)]
section
variable {P:List aR} {rs:List Rd} {d w c:Int}
end
theorem uE.aP{N:ab}(h:uE N):(∀p∈N.aP,POk p)∧N.aP.length≤16:=by
 have h1:=h.parts.2.2;unfold jY at h1;split at h1
 ·omega
 ·split at h1
  ·omega
  ·rename_i _ hle;refine⟨fun p hp=>?_,by omega⟩;obtain⟨k,hk,rfl⟩:=ali hp;have:=(kD _ _).1 h1 k hk;unfold Em at this;rw[cN hk]at this;simp only at this;split at this
   ·omega
   ·split at this
    ·omega
    ·split at this
     ·omega
     ·rename_i hb;unfold En wi at hb;simp only[akp,akK,ana,Bool.not_eq_false,No,AT]at hb;exact⟨⟨by omega,by omega⟩,⟨by omega,by omega⟩,by omega,by omega⟩
section
variable {N:ab} {q:gy} {l:List bp}
theorem TK(h:uE N)(hg:Bw N l):∀m k out,k+m=l.length→Q5 l k out→∀y∈fX N (l.drop k) out,JY y:=by
 intro m;induction m with
 |zero=>intro k out e hi;rw[show k=l.length by omega,alM];exact hi.ok
 |succ m ih=>
  intro k out e hi;have hk:k<l.length:=by omega
  rw[vT hk];exact ih (k+1) _ (by omega) (Gk h hg hk hi)
theorem Pa(h:uE N)(hg:Bw N l):∀y∈fX N l [],JY y:=by have:=TK h hg l.length 0 [] (by omega) ⟨by simp,fun y hy=>by simp at hy,fun hh=>by cases hh⟩;simpa using this
theorem Pb{P:List aR}{d w c:Int}(hPo:P.length≤maxLen∧∀y∈P,aR.Ok y)(hf:(jY P d w c).2=0){rs:List Rd}(hn:8<rs.length):jw [fE P d w c,.rs 4 (rs.map Rd.pv)]=some (.aO [.int .i64 0,.rs 4 [],.int .i64 33]):=by
 have hv:ll [fE P d w c,.rs 4 (rs.map Rd.pv)]=some (.int .i64 33):=by simp only[ll,vV,Gm,Gn,Gp,Gq,Gs,aS,U,Iv,vW P d w c hPo,BY,hf];simp[res,dn,Ab.asInt];omega
 simp only[jw,vX,Gm,Gn,Gp,Gq,Gs,aS,U,Iv,hv,aI];rfl
def jV(N:ab)(l:List bp):Dv:=zX N.aP (fX N l []) N.bX N.within
def tH(N:ab)(l:List bp):Int:=if 8<(fX N l []).length then 33 else if(jV N l).ok=true then 0 else 34
def Ti(q:gy)(l:List bp):Int:=match l[0]? with|some x=>x.dep|none=>q.time
def Tj(q:gy)(l:List bp):Int:=match l[l.length-1]? with|some x=>x.arr|none=>q.time
def sH(N:ab)(q:gy)(l:List bp):PV:=if tH N l=0 then .aO [.agg [.int .i64 (Ti q l),.int .i64 (Tj q l),.int .i64 (fX N l []).length,.int .i64 (Hc N.cap (jV N l).sum),.int .i64 (Oh l 0)],.rs 4 ((jV N l).l.map oG.pv),.int .i64 0]else .aO [.agg [.int .i64 0,.int .i64 0,.int .i64 0,.int .i64 0,.int .i64 0],.rs 4 [],.int .i64 (tH N l)]
theorem adD:PV.agg [.rs 6 (N.aP.map aR.pv),.int .i64 N.bX,.int .i64 N.within,.int .i64 N.cap]=fE N.aP N.bX N.within N.cap:=rfl
theorem t2(a b:PV):dn 2 (.aO [a,b])=some [a,b]:=rfl
theorem t3(a b c:PV):dn 3 (.aO [a,b,c])=some [a,b,c]:=rfl
theorem g5(a b c d e:PV):asAgg 5 (.agg [a,b,c,d,e])=some ():=rfl
theorem TL(hn:8<(fX N l []).length):sH N q l=.aO [.agg [.int .i64 0,.int .i64 0,.int .i64 0,.int .i64 0,.int .i64 0],.rs 4 [],.int .i64 33]:=by simp_all[tH,AI,sH,IS,decide]
theorem TM(hn:¬8<(fX N l []).length)(ho:¬(jV N l).ok=true):sH N q l=.aO [.agg [.int .i64 0,.int .i64 0,.int .i64 0,.int .i64 0,.int .i64 0],.rs 4 [],.int .i64 34]:=by simp_all[tH,IS,sH,decide]
theorem TN(hn:¬8<(fX N l []).length)(ho:(jV N l).ok=true):sH N q l=.aO [.agg [.int .i64 (Ti q l),.int .i64 (Tj q l),.int .i64 (fX N l []).length,.int .i64 (Hc N.cap (jV N l).sum),.int .i64 (Oh l 0)],.rs 4 ((jV N l).l.map oG.pv),.int .i64 0]:=by
 have:tH N l=0:=by simp_all[tH,IS,AI]
 unfold sH;rw[this,AI rfl]
theorem QC(h:uE N)(hg:Bw N l)(hl:l.length≤1000000)(ho:∀x∈l,x.Ok):eL [N.pv,q.pv,QS l]=some (sH N q l):=by
 obtain⟨hP,hPl⟩:=h.aP;have afF:=Pa h hg;have hPo:N.aP.length≤maxLen∧∀y∈N.aP,aR.Ok y:=⟨h.ok.aP.1,h.ok.aP.2⟩;have hf:=h.parts.2.2;simp only[eL,rz,wK,wL,wM,wN,wO,wP,wQ,wR,wS,wT,Oo,Oq,Ot,Ou,Ov,Ow,Ox,Oy,Oz,OA,OB,jA,j0,U,DX,jF,WV h hg hl,t2,ajc,aka,aS,aI,adD,BY];rw[IS (by simp)];by_cases hn:8<(fX N l []).length
 ·rw[Pb hPo hf hn,TL hn];rfl
 ·rw[W2 (d:=N.bX) (w:=N.within) (c:=N.cap) hPo hf hP hPl (show(fX N l []).length≤8 by omega) afF,show zX N.aP (fX N l []) N.bX N.within=jV N l from rfl];by_cases hk:(jV N l).ok=true
  ·rw[AI hk,TN hn hk];simp only[U,t3,ajc,aka,aS,aI,L5 l hl ho];rw[IS (by simp)];unfold Ti Tj;by_cases hz:0<l.length
   ·rw[AI (by simp;omega),show fj (l.map bp.pv) 0=_ from bS bp.pv l 0 hz,aY (by omega) (by omega),show(l.length:Int)-1=((l.length-1:Nat):Int) by omega,bS bp.pv l (l.length-1) (by omega),cN hz,cN (show l.length-1<l.length by omega)];rfl
   simp_all
  ·rw[IS hk,TM hn hk];rfl
theorem TO(N:ab)(q:gy)(l:List bp):∃a b c d e ts,some (sH N q l)=some (.aO [.agg [.int .i64 a,.int .i64 b,.int .i64 c,.int .i64 d,.int .i64 e],.rs 4 ts,.int .i64 (tH N l)]):=by
 unfold sH;split
 ·simp_all
 simp
theorem aa6(h:uE N)(hg:Bw N l)(hl:l.length≤1000000)(ho:∀x∈l,x.Ok):∃a b c d e ts,eL [N.pv,q.pv,QS l]=some (.aO [.agg [.int .i64 a,.int .i64 b,.int .i64 c,.int .i64 d,.int .i64 e],.rs 4 ts,.int .i64 (tH N l)]):=by rw[QC h hg hl ho];exact TO N q l
end
end Go.Ab.Tt
