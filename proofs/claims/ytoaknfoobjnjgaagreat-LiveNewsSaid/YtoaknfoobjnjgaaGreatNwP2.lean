import Derived.Test.YtoaknfoobjnjgaaGreatNwP1
namespace Go.Ab.Nw
set_option maxRecDepth 100000
set_option linter.all false
def Te(E:List Ed)(M:Nat)(s v:Nat)(d:Int):Prop:=(d= -1∧∀L,¬N6 E s v L)∨∃L:Nat,d=L∧L≤M∧N6 E s v L∧∀L',N6 E s v L'→L≤L'
theorem Te.unique{E:List Ed}{M M' s v:Nat}{d d':Int}(h:Te E M s v d)(h':Te E M' s v d'):d=d':=by
 rcases h with⟨e,h⟩|⟨L,e,_,h1,h2⟩
 ·rcases h' with⟨e',_⟩|⟨L',_,_,h1',_⟩
  ·omega
  simp_all
 ·rcases h' with⟨_,h'⟩|⟨L',e',_,h1',h2'⟩
  ·exact absurd h1 (h' L)
  grind
theorem N6.mem{E E':List Ed}(h:∀y,y∈E→y∈E'){s v L:Nat}(hr:N6 E s v L):N6 E' s v L:=by
 rcases hr with hr|hr
 ·exact .inl hr
 ·exact .inr (hr.mono fun i j c hc=>h _ hc)
theorem Te.mem{E E':List Ed}(h:∀y,y∈E↔y∈E'){M s v:Nat}{d:Int}(hd:Te E M s v d):Te E' M s v d:=by
 rcases hd with⟨e,h1⟩|⟨L,e,hM,h1,h2⟩
 ·exact .inl ⟨e,fun L hL=>h1 L (hL.mem fun y hy=>(h y).2 hy)⟩
 ·exact .inr ⟨L,e,hM,h1.mem fun y hy=>(h y).1 hy,fun L' hL=>h2 L' (hL.mem fun y hy=>(h y).2 hy)⟩
def Ao(n:Nat)(D:Nat→Int):List PV:=(List.range n).map fun v=>.int .i64 (D v)
def fv(n:Nat)(D:Nat→Nat→Int):List PV:=(List.range n).map fun s=>.rs 1 (Ao n (D s))
variable{D:Nat→Nat→Int}
theorem Qm{n:Nat}{D':Nat→Nat→Int}(h:∀s v,s<n→v<n→D s v=D' s v):fv n D=fv n D':=by unfold fv;apply aoB;simp_all[Ao,congr,aoB]
theorem aaZ(E:List Ed)(n B:Nat)(hn:n≤64)(hE:E.length≤4096)(hB:B≤1073741824)(h:∀y∈E,y.f<n∧y.t<n∧y.c≤B):∃D:Nat→Nat→Int,(∀s v,s<n→v<n→Te E (B*n) s v (D s v))∧jh [.int .i64 n,.rs 3 (E.map Ed.pv)]=some (.aI [.rs 1 (fv n D),.int .i64 0]):=by
 have h':∀y∈E,y.f<n∧y.t<n∧y.c≤1073741824:=fun y hy=>⟨(h y hy).1,(h y hy).2.1,by grind⟩;have hG:=aaY E n hn hE h';have each:∀s,∃o:qP,s<n→(∃pu,DI E n s B o pu [])∧gU [.int .i64 n,.rm 3 ((Ql (DP E)).map fun x=>x.1) ((Ql (DP E)).map fun x=>x.2.qA),.int .i64 s]=some (.rs 3 (ep n o)):=fun s=>by
  by_cases hs:s<n
  ·grind [XU]
  ·exact⟨fun _=>none,fun h=>absurd h hs⟩
 obtain⟨o,ho⟩:=Classical.axiomOfChoice each;refine⟨fun s v=>N8 (o s v),fun s v hs hv=>?_,?_⟩
 ·obtain⟨⟨pu,hI⟩,_⟩:=ho s hs;have:=hI.done h hv;cases hl:o s v with
  |none=>rw[hl]at this;exact .inl ⟨by dsimp only;rw[hl];rfl,this⟩
  |some p=>obtain⟨L,e⟩:=p;rw[hl]at this;exact .inr ⟨L,by dsimp only;rw[hl];rfl,this.1,this.2.1,this.2.2⟩
 ·have e0:ah 3 (.rs 3 (E.map Ed.pv))=some (E.map Ed.pv):=by rfl
  have bw:(0:Int)≤(n:Int)∧(n:Int)≤(n:Int)∧n*24≤ab∧0<24∧0<1:=by grind [ab]
  have hz:((0:Int) !=0)=false:=rfl;simp only[jh,zJ,KC,e0,U,aaW E n hn hE h',hz,AI,OF,Oa E hE,cJ,BY,an9,No bw,aoI];refine aM (fun k=>((n:Int),PV.rm 3 ((Ql (DP E)).map fun x=>x.1) ((Ql (DP E)).map fun x=>x.2.qA),(n:Int),(k:Int),wm n k (fun s=>.rs 1 (Ao n fun v=>N8 (o s v))) (.rs 0 []),())) n (fun k hk rec=>?_) (fun rec=>?_) (by unfold rounds;omega) ?_
  ·unfold mR;dsimp only;have hg:decide ((k:Int)<(n:Int))=true:=by simp;omega
   have e3:ah 3 (.rs 3 (ep n (o k)))=some (ep n (o k)):=by rfl
   have e1:ah 1 (.rs 1 ((List.range n).map fun v=>PV.int .i64 (N8 (o k v))))=some ((List.range n).map fun v=>PV.int .i64 (N8 (o k v))):=by rfl
   rw[No hg,(ho k hk).2,U,e3,U,Td n hn,U,e1,U,No (H5 (by rw[Qg];omega)),an9,Qh hk,U,ag (by omega)];simp_all[Qi,Ao,N8]
  ·unfold mR;dsimp only;rw[QU (by simp),Qj];rfl
  ·rw[Mt];rfl
theorem aa0(E E':List Ed)(n B:Nat)(hn:n≤64)(hE:E'.length≤4096)(hB:B≤1073741824)(h:∀y∈E,y.f<n∧y.t<n∧y.c≤B)(he:∀y,y∈E↔y∈E')(hD:∀s v,s<n→v<n→Te E (B*n) s v (D s v)):jh [.int .i64 n,.rs 3 (E'.map Ed.pv)]=some (.aI [.rs 1 (fv n D),.int .i64 0]):=by obtain⟨D',d1,d2⟩:=aaZ E' n B hn hE hB fun y hy=>h y ((he y).2 hy);rw[d2,Qm fun s v hs hv=>((hD s v hs hv).mem he).unique (d1 s v hs hv)]
structure Fp where
 a:Nat
 b:Nat
 c:Nat
 free:Bool
 deriving DecidableEq
def Fp.pv(p:Fp):PV:=.agg [.int .i64 p.a,.int .i64 p.b,.int .i64 p.c,.bool p.free]
theorem fp0(p:Fp):cell p.pv 0=.int .i64 p.a:=rfl
theorem fp1(p:Fp):cell p.pv 1=.int .i64 p.b:=rfl
theorem fp2(p:Fp):cell p.pv 2=.int .i64 p.c:=rfl
theorem fp3(p:Fp):cell p.pv 3=.bool p.free:=rfl
def Fp.ed(p:Fp):Ed:=⟨p.a,p.b,p.c⟩
def xC(z:Ed):List Ed→List Ed
 |[]=>[z]
 |e::r=>if z.f=e.f∧z.t=e.t then z::r else e::xC z r
def E4(a b:Nat):List Ed→Option Nat
 |[]=>none
 |e::r=>if a=e.f∧b=e.t then some e.c else E4 a b r
theorem J1(a b:Nat)(z:Ed):∀m,E4 a b (xC z m)=if a=z.f∧b=z.t then some z.c else E4 a b m
 |[]=>rfl
 |e::r=>by
  simp only[xC];by_cases h:z.f=e.f∧z.t=e.t
  ·simp_all[No,E4,QU]
  ·rw[QU h];simp only[E4];by_cases h2:a=e.f∧b=e.t
   ·grind
   simp_all[QU,J1]
theorem Qn(z e:Ed):∀m,e∈xC z m→e=z∨e∈m
 |[],h=>by simp[xC]at h;exact .inl h
 |x::r,h=>by
  simp only[xC]at h;split at h
  ·rcases aoc.1 h with h|h
   ·exact .inl h
   ·exact .inr (by simp[h])
  ·rcases aoc.1 h with h|h
   ·exact .inr (by simp[h])
   ·rcases Qn z e r h with h|h
    ·exact .inl h
    ·exact .inr (by simp[h])
theorem Qo{a b x:Nat}:∀{m:List Ed},E4 a b m=some x→∃e∈m,e.f=a∧e.t=b∧e.c=x
 |[],h=>by cases h
 |e::r,h=>by
  simp only[E4]at h;split at h
  ·simp_all
  simp_all[Qo]
theorem Qp(z:Ed):∀m,(xC z m).length≤m.length+1
 |[]=>by simp[xC]
 |e::r=>by
  simp only[xC];split
  ·simp
  ·have:=Qp z r;simp;omega
def Qq(fr:Bool)(m:List Ed)(p:Fp):List Ed:=if(fr&& !p.free)=true then m else match E4 p.a p.b m with
 |none=>xC p.ed m
 |some x=>if p.c<x then xC p.ed m else m
def lM(fr:Bool)(l:List Fp):List Ed:=l.foldl (Qq fr) []
theorem Gl(fr:Bool)(l:List Fp)(p:Fp):lM fr (l++[p])=Qq fr (lM fr l) p:=by simp[lM]
def counted(fr:Bool)(l:List Fp):List Ed:=(l.filter fun p=> !(fr&& !p.free)).map Fp.ed
theorem Ob(fr:Bool)(l:List Fp):(∀e∈lM fr l,e∈counted fr l)∧(∀e∈counted fr l,∃x,E4 e.f e.t (lM fr l)=some x∧x≤e.c)∧(lM fr l).length≤l.length:=by
 rw[←apY l];induction l.reverse with
 |nil=>simp[lM,counted,aoa]
 |cons p l ih=>
  rw[List.reverse_cons,Gl];obtain⟨i1,i2,i3⟩:=ih;have hc:counted fr (l.reverse++[p])=counted fr l.reverse++(if(fr&& !p.free)=true then[]else[p.ed]):=by unfold counted;grind
  rw[hc];unfold Qq;by_cases h:(fr&& !p.free)=true
  ·grind
  ·rw[QU h,QU h];have put:(∀e∈xC p.ed (lM fr l.reverse),e∈counted fr l.reverse++[p.ed]):=fun e he=>by
    rcases Qn _ _ _ he with rfl|he
    ·simp
    simp_all
   have len:(xC p.ed (lM fr l.reverse)).length≤(l.reverse++[p]).length:=by grind [Qp,lM]
   cases hb:E4 p.a p.b (lM fr l.reverse)with
   |none=>
    refine⟨put,fun e he=>?_,len⟩;rw[J1];by_cases hk:e.f=p.ed.f∧e.t=p.ed.t
    ·rw[No hk];rcases aol.1 he with he|he
     ·obtain⟨x,h1,_⟩:=i2 e he;rw[hk.1,hk.2]at h1;rw[show p.ed.f=p.a from rfl,show p.ed.t=p.b from rfl,hb]at h1;cases h1
     simp_all
    grind
   |some x=>
    dsimp only;by_cases hx:p.c<x
    ·rw[No hx];refine⟨put,fun e he=>?_,len⟩;rw[J1];by_cases hk:e.f=p.ed.f∧e.t=p.ed.t
     ·rw[No hk];rcases aol.1 he with he|he
      ·obtain⟨y,h1,h2⟩:=i2 e he;rw[hk.1,hk.2,show p.ed.f=p.a from rfl,show p.ed.t=p.b from rfl,hb]at h1;cases h1;exact⟨_,rfl,by show p.c≤e.c;omega⟩
      simp_all
     grind
    ·rw[QU hx];refine⟨fun e he=>aq4 _ (i1 e he),fun e he=>?_,by simp at i3⊢;omega⟩;rcases aol.1 he with he|he
     ·exact i2 e he
     ·simp at he;subst he;exact⟨x,hb,by show x≤p.c;omega⟩
def pF(e:Ed):PV×PV:=(.agg [.int .i64 e.f,.int .i64 e.t,.bool false],.int .i64 e.c)
theorem ajy(a b c d:Nat):bO (PV.agg [.int .i64 a,.int .i64 b,.bool false]).cells (PV.agg [.int .i64 c,.int .i64 d,.bool false]).cells=decide (a=c∧b=d):=by
 have h:∀x y:Nat,((x:Int)==(y:Int))=decide (x=y):=fun x y=>by grind
 simp only[PV.cells,bO,peq,apw,h,beq_self_eq_true,Bool.decide_and]
theorem afi(a b:Nat):∀m:List Ed,bS (.agg [.int .i64 a,.int .i64 b,.bool false]) (.int .i64 0) (m.map pF)=.int .i64 (((E4 a b m).getD 0:Nat):Int)∧ml (.agg [.int .i64 a,.int .i64 b,.bool false]) (m.map pF)=(E4 a b m).isSome
 |[]=>⟨rfl,rfl⟩
 |e::r=>by obtain⟨h1,h2⟩:=afi a b r;simp only[aog,pF,bS,ml,ajy,E4];grind
theorem agx(z:Ed):∀m:List Ed,dd (.agg [.int .i64 z.f,.int .i64 z.t,.bool false]) (.int .i64 z.c) (m.map pF)=(xC z m).map pF
 |[]=>rfl
 |e::r=>by
  have ih:=agx z r;simp only[aog,dd,xC];rw[show(pF e)=(PV.agg [.int .i64 e.f,.int .i64 e.t,.bool false],PV.int .i64 e.c)from rfl];simp only[ajy];by_cases h:z.f=e.f∧z.t=e.t
  ·simp[h,pF]
  ·simp only[h,aoo,AI,OF,aog,ih];rfl
theorem I1{R:Type}{n:Nat}{g:Nat→Option R}{r:R}(hn:0<n)(h:∀i,i<n→g i=some r):vU n g=some r:=by unfold vU;have hh:∃r,∀i,i<n→g i=some r:=⟨r,h⟩;rw[dif_pos hh];grind
theorem XV{n:Nat}(hn:n≤64)(r:PV)(ajz:List Ed→Prop)(ye:∀acc,ajz acc→∃D,jh [.int .i64 n,.rs 3 (acc.map Ed.pv)]=some (.aI [.rs 1 D,.int .i64 0])∧r=.rs 1 D):∀(rem acc:List Ed)(N:Nat),rem.length<N→acc.length+rem.length≤4096→(∀l,(∀y,y∈l↔y∈acc∨y∈rem)→l.length=acc.length+rem.length→ajz l)→dH (eG aV) N ((n:Int),acc.map Ed.pv,rem.map pF,())=some r:=by
 intro rem;generalize hk:rem.length=k;induction k generalizing rem with
 |zero=>intro acc N hN hl hg;have:rem=[]:=aof hk;subst this;obtain⟨N,rfl⟩:∃m,N=m+1:=⟨N-1,by omega⟩;simp only[dH];unfold eG;dsimp only;rw[No (show(List.map pF []).isEmpty=true from rfl)];obtain⟨D,h1,h2⟩:=ye acc (hg acc (fun y=>by simp) (by simp));have e2:bN 2 (.aI [.rs 1 D,.int .i64 0])=some [.rs 1 D,.int .i64 0]:=rfl;simp_all[ah,U,aev,ali,KC]
 |succ k ih=>
  intro acc N hN hl hg;obtain⟨N,rfl⟩:∃m,N=m+1:=⟨N-1,by omega⟩;simp only[dH];generalize Pw:dH (eG aV) N=rec;unfold eG;dsimp only
  have bU:¬(rem.map pF).isEmpty=true:=by cases rem with
   |nil=>simp at hk
   |cons _ _=>simp
  rw[QU bU];refine I1 (by simp;omega) fun i hi=>?_;have l8:i<rem.length:=by simpa using hi
  obtain⟨e,he⟩:∃e,rem[i]?=some e:=⟨_,ta l8⟩;have G2:(rem.map pF)[i]?=some (pF e):=by simp_all
  have bw:(acc.map Ed.pv++[PV.agg [.int .i64 e.f,.int .i64 e.t,.int .i64 e.c]]).length*24≤ab∧0<24:=by grind [List.length_append,List.length_map,List.length_cons,List.length_nil,ab]
  have HV:acc.map Ed.pv++[PV.agg [.int .i64 e.f,.int .i64 e.t,.int .i64 e.c]]=(acc++[e]).map Ed.pv:=by simp[Ed.pv]
  have agy:(rem.map pF).eraseIdx i=(rem.eraseIdx i).map pF:=by apply aox;grind
  have hle:(rem.eraseIdx i).length=k:=by grind
  rw[G2,U];rw[HV]at bw;simp only[pF,ag3,ajr,agw,KC,U,HV,No bw,agy];rw[←Pw];refine ih (rem.eraseIdx i) hle (acc++[e]) N (by omega) (by simp;omega) fun l Pv YH=>hg l (fun y=>?_) (by rw[YH];simp;omega);rw[Pv];have bk:y∈rem↔y=e∨y∈rem.eraseIdx i:=by
   rw[List.mem_eraseIdx_iff_getElem?];constructor
   ·grind [List.getElem?_of_mem,Option.some.inj]
   grind
  grind
theorem N6.leq{E E':List Ed}(h:∀e∈E,∃e'∈E',e'.f=e.f∧e'.t=e.t∧e'.c≤e.c){s v L:Nat}(hr:N6 E s v L):∃L',L'≤L∧N6 E' s v L':=by
 rcases hr with⟨h1,h2⟩|hr
 ·exact⟨L,aoa _,.inl ⟨h1,h2⟩⟩
 ·obtain⟨L',l1,l2⟩:=hr.leq (w':=ew E') fun i j c hc=>by
   obtain⟨e',m,e1,e2,e3⟩:=h _ hc;refine⟨e'.c,e3,?_⟩;unfold ew;have:(⟨i,j,e'.c⟩:Ed)=e':=by have e1:e'.f=i:=e1;have e2:e'.t=j:=e2;rw[←e1,←e2]
   rw[this];omega
  exact⟨L',l1,.inr l2⟩
theorem aa1{fr:Bool}{l:List Fp}{M s v:Nat}{d:Int}(h:Te (lM fr l) M s v d):Te (counted fr l) M s v d:=by
 obtain⟨b1,b2,_⟩:=Ob fr l;have low:∀{L},N6 (counted fr l) s v L→∃L',L'≤L∧N6 (lM fr l) s v L':=fun hr=>hr.leq fun e he=>by grind [Qo]
 rcases h with⟨e,h1⟩|⟨L,e,hM,h1,h2⟩
 ·refine .inl ⟨e,fun L hL=>?_⟩;simp_all
 ·refine .inr ⟨L,e,hM,h1.mem b1,fun L' hL=>?_⟩;grind
theorem wg{fr:Bool}{l:List Fp}{e:Ed}(h:e∈counted fr l):∃p∈l,p.ed=e:=by unfold counted at h;grind
theorem XW{A:Type}[DecidableEq A]:∀(a b:List A),a.Nodup→(∀x∈a,x∈b)→a.length≤b.length:=by
 intro a;induction a with
 |nil=>simp
 |cons x a ih=>
  intro b hn hs;rw[apx]at hn;have hx:x∈b:=hs x (by simp);have:=ih (b.erase x) hn.2 fun y hy=>by grind
  grind
def UP(e:Ed):Nat×Nat:=(e.f,e.t)
theorem My(z:Ed)(k:Nat×Nat):∀m:List Ed,k∈(xC z m).map UP↔k=UP z∨k∈m.map UP
 |[]=>by simp[xC]
 |e::r=>by
  have ih:=My z k r;simp only[xC];split
  ·rename_i h;have:UP z=UP e:=by simp[UP,h.1,h.2]
   simp only[aog,aoc,this];grind
  ·simp only[aog,aoc,ih];grind
theorem J2(z:Ed):∀m:List Ed,(m.map UP).Nodup→((xC z m).map UP).Nodup
 |[],_=>by simp[xC]
 |e::r,h=>by
  rw[aog,apx]at h;simp only[xC];split
  ·rename_i hz;have:UP z=UP e:=by simp[UP,hz.1,hz.2]
   rw[aog,apx,this];exact h
  ·rename_i hz;rw[aog,apx,My];refine⟨fun hk=>hk.elim (fun e'=>hz ?_) h.1,J2 z r h.2⟩;simp only[UP,afu]at e';exact⟨e'.1.symm,e'.2.symm⟩
theorem Tf(fr:Bool)(l:List Fp):((lM fr l).map UP).Nodup:=by
 rw[←apY l];induction l.reverse with
 |nil=>simp[lM]
 |cons p r ih=>grind [List.reverse_cons,Gl,Qq,J2]
theorem aa2{n:Nat}(hn:n≤64)(fr:Bool)(l:List Fp)(h:∀p∈l,p.a<n∧p.b<n):(lM fr l).length≤4096:=by
 have h1:=XW ((lM fr l).map UP) ((List.range n).flatMap fun i=>(List.range n).map fun k=>(i,k)) (Tf fr l) fun x hx=>by obtain⟨e,he,rfl⟩:=aoi.1 hx;obtain⟨p,hp,rfl⟩:=wg ((Ob fr l).1 e he);exact aoE.2 ⟨p.a,aoA.2 (h p hp).1,aoi.2 ⟨p.b,aoA.2 (h p hp).2,rfl⟩⟩
 have h2:((List.range n).flatMap fun i=>(List.range n).map fun k=>(i,k)).length=n*n:=by
  have hs:∀m:List Nat,(m.map fun _=>n).sum=m.length*n:=fun m=>by
   induction m with
   |nil=>simp
   |cons a m ih=>grind
  simp_all
 have h3:n*n≤64*64:=apR hn hn;grind
theorem UQ(l:List Fp)(n B:Nat)(hn:n≤64)(hl:l.length≤8192)(hB:B≤1073741824)(h:∀p∈l,p.a<n∧p.b<n∧p.c≤B)(fr:Bool):∃D:Nat→Nat→Int,(∀s v,s<n→v<n→Te (counted fr l) (B*n) s v (D s v))∧fk [.rs 4 (l.map Fp.pv),.int .i64 n,.bool fr]=some (.rs 1 (fv n D)):=by
 obtain⟨b1,b2,b3⟩:=Ob fr l;have hbe:∀y∈lM fr l,y.f<n∧y.t<n∧y.c≤B:=fun y hy=>by obtain⟨p,hp,rfl⟩:=wg (b1 y hy);exact h p hp
 have b4:=aa2 hn fr l fun p hp=>⟨(h p hp).1,(h p hp).2.1⟩;obtain⟨D,d1,d2⟩:=aaZ (lM fr l) n B hn (by omega) hB hbe;refine⟨D,fun s v hs hv=>aa1 (d1 s v hs hv),?_⟩;have e0:ah 4 (.rs 4 (l.map Fp.pv))=some (l.map Fp.pv):=by rfl
 simp only[fk,nG,e0,U,KC,asBool];refine aM (fun k=>((n:Int),fr,l.map Fp.pv,((l.map Fp.pv).length:Int),(k:Int),(lM fr (l.take k)).map pF,())) l.length (fun k hk rec=>?_) (fun rec=>?_) (by unfold rounds;omega) (by rfl)
 ·unfold j7;dsimp only;have hg:decide ((k:Int)<((l.map Fp.pv).length:Int))=true:=by simp;omega
  obtain⟨p,hp⟩:∃p,l[k]?=some p:=⟨_,ta hk⟩;have G2:(l.map Fp.pv)[k]?=some p.pv:=by simp_all
  have YP:l.take (k+1)=l.take k++[p]:=by rw[aqG,hp];rfl
  have hr7:(bif fr then(asBool (cell p.pv 3)).bind fun b6=>some !b6 else some false)=some (fr&& !p.free):=by rw[fp3];cases fr<;>rfl
  obtain⟨g1,g2⟩:=afi p.a p.b (lM fr (l.take k));rw[No hg,af,G2,U,hr7,U,ag (by omega),YP,Gl];unfold Qq;by_cases hf:(fr&& !p.free)=true
  ·simp_all
  ·rw[QU hf,QU hf];simp only[fp0,fp1,fp2,KC,U,g1,g2];cases hb:E4 p.a p.b (lM fr (l.take k))with
   |none=>simp only[apS,aoj,cond_true,U,BY];rw[show(p.c:Int)=((p.ed.c:Nat):Int)from rfl,show(p.a:Int)=((p.ed.f:Nat):Int)from rfl,show(p.b:Int)=((p.ed.t:Nat):Int)from rfl,agx]
   |some x=>
    simp only[aqa,alk,cond_false,U,aoD];by_cases hx:p.c<x
    ·have hd:decide ((p.c:Int)<(x:Int))=true:=by simp;omega
     simp only[hd,BY,No hx];rw[show(p.c:Int)=((p.ed.c:Nat):Int)from rfl,show(p.a:Int)=((p.ed.f:Nat):Int)from rfl,show(p.b:Int)=((p.ed.t:Nat):Int)from rfl,agx]
    grind
 ·unfold j7;dsimp only;have Pv:((lM fr (l.take l.length)).map pF).length≤maxLen:=by grind [List.take_length,List.length_map,maxLen,decide]
  have bw:(0:Int)≤0∧0≤((((lM fr (l.take l.length)).map pF).length:Nat):Int)∧((((lM fr (l.take l.length)).map pF).length:Nat):Int).toNat*24≤ab∧0<24∧0<3:=by grind [Int.toNat_natCast,List.take_length,List.length_map,ab]
  rw[QU (by simp),No Pv,No bw,aoJ,vV];have hp:=XV hn (.rs 1 (fv n D)) (fun acc=>(∀y,y∈lM fr l↔y∈acc)∧acc.length≤4096) (fun acc⟨h1,h2⟩=>⟨_,aa0 (lM fr l) acc n B hn h2 hB hbe h1 d1,rfl⟩) (lM fr l) [] rounds (by unfold rounds;omega) (by simp;omega) (fun l' h1 h2=>⟨fun y=>by rw[h1];simp,by rw[h2];simp;omega⟩);exact hp
abbrev Mx:=Nat→Nat→Nat
def HJ(d:Mx)(i j x:Nat):Mx:=fun a b=>if a=i∧b=j then x else d a b
def dj(k i:Nat)(d:Mx):Nat→Mx
 |0=>d
 |j+1=>HJ (dj k i d j) i j (min (dj k i d j i j) (dj k i d j i k+dj k i d j k j))
def di(n k:Nat)(d:Mx):Nat→Mx
 |0=>d
 |i+1=>dj k i (di n k d i) n
def dk(n:Nat)(d:Mx):Nat→Mx
 |0=>d
 |k+1=>di n k (dk n d k) n
structure F0(w:Nat→Nat→Nat→Prop)(inf n k i j:Nat)(d:Mx):Prop where
 fw:Fw w inf n d
 lj:∀a b,a<n→b<n→u9 w k a b (d a b)
 new:∀a b,a<n→b<n→(a<i∨(a=i∧b<j))→u9 w (k+1) a b (d a b)
variable {w:Nat→Nat→Nat→Prop} {inf n:Nat}
theorem u9.le{k i j x y:Nat}(h:u9 w k i j x)(hy:y≤x):u9 w k i j y:=fun L hL=>aov hy (h L hL)
theorem F0.cell{k i j:Nat}{d:Mx}(h:F0 w inf n k i j d)(hi:i<n)(hj:j<n)(hk:k<n):F0 w inf n k i (j+1) (HJ d i j (min (d i j) (d i k+d k j))):=by
 obtain⟨h1,h2,h3⟩:=aeb h.fw hi hj hk (x:=min (d i j) (d i k+d k j)) rfl (d':=HJ d i j (min (d i j) (d i k+d k j))) (fun a b=>rfl);refine⟨h1,fun a b ha hb=>(h.lj a b ha hb).le (h2 a b),fun a b ha hb hd=>?_⟩;by_cases e:a=i∧b=j
 ·obtain⟨rfl,rfl⟩:=e;exact h3 (h.lj _ _ ha hk) (h.lj _ _ hk hb) (h.lj _ _ ha hb)
 ·exact(h.new a b ha hb (by omega)).le (h2 a b)
theorem F0.row{k i:Nat}{d:Mx}(h:F0 w inf n k i 0 d)(hi:i<n)(hk:k<n):∀j,j≤n→F0 w inf n k i j (dj k i d j)
 |0,_=>h
 |j+1,hj=>(F0.row h hi hk j (by omega)).cell hi (by omega) hk
theorem F0.rows{k:Nat}{d:Mx}(h:F0 w inf n k 0 0 d)(hk:k<n):∀i,i≤n→F0 w inf n k i 0 (di n k d i)
 |0,_=>h
 |i+1,hi=>by have:=(F0.rows h hk i (by omega)).row (by omega) hk n (aoa _);exact⟨this.fw,this.lj,fun a b ha hb hd=>this.new a b ha hb (by omega)⟩
structure aa3(w:Nat→Nat→Nat→Prop)(inf n k:Nat)(d:Mx):Prop where
 fw:Fw w inf n d
 low:∀a b,a<n→b<n→u9 w k a b (d a b)
theorem aa3.rounds{d:Mx}(h:aa3 w inf n 0 d):∀k,k≤n→aa3 w inf n k (dk n d k)
 |0,_=>h
 |k+1,hk=>by have ih:=aa3.rounds h k (by omega);have:=F0.rows (k:=k) ⟨ih.fw,ih.low,fun a b ha hb hd=>by omega⟩ (by omega) n (aoa _);exact⟨this.fw,fun a b ha hb=>this.new a b ha hb (.inl ha)⟩
def UR(inf:Nat):Mx:=fun _ _=>inf
def lay(d:Mx)(e:Ed):Mx:=HJ d e.f e.t (min (d e.f e.t) e.c)
def start(inf:Nat)(E:List Ed):Mx:=E.foldl lay (UR inf)
theorem JQ(inf:Nat)(E:List Ed)(e:Ed):start inf (E++[e])=lay (start inf E) e:=by simp[start]
theorem aa4(E:List Ed):(∀i j,start inf E i j≤inf)∧(∀i j,start inf E i j<inf→(⟨i,j,start inf E i j⟩:Ed)∈E)∧∀e∈E,start inf E e.f e.t≤e.c:=by
 rw[←apY E];induction E.reverse with
 |nil=>simp[aoa,start,UR]
 |cons e l ih=>
  rw[List.reverse_cons,JQ];obtain⟨i1,i2,i3⟩:=ih;have hl:∀a b,lay (start inf l.reverse) e a b=if a=e.f∧b=e.t then min (start inf l.reverse e.f e.t) e.c else start inf l.reverse a b:=fun a b=>rfl;refine⟨fun a b=>?_,fun a b h=>?_,fun z hz=>?_⟩
  ·grind
  ·rw[hl]at h⊢;split
   ·rename_i hk;rw[No hk]at h;by_cases hm:start inf l.reverse e.f e.t≤e.c
    ·simp_all
    ·rw[show min (start inf l.reverse e.f e.t) e.c=e.c by omega,hk.1,hk.2];simp
   simp_all
  grind
theorem DH(E:List Ed):aa3 (ew E) inf n 0 (start inf E):=by obtain⟨h1,h2,h3⟩:=aa4 (inf:=inf) E;exact⟨⟨fun i j _ _=>h1 i j,fun i j _ _ h=>.A9 (h2 i j h)⟩,fun a b _ _ L hL=>h3 ⟨a,b,L⟩ hL⟩
theorem aeg{E:List Ed}{M:Nat}(hE:∀y∈E,y.f<n∧y.t<n)(hM:M<inf){i j:Nat}(hi:i<n)(hj:j<n)(Zq:i≠j){D:Int}(hD:Te E M i j D):(D= -1∧dk n (start inf E) n i j=inf)∨(D=(dk n (start inf E) n i j:Int)∧dk n (start inf E) n i j≤M):=by
 have hd:=(DH (n:=n) (inf:=inf) E).rounds n (aoa _);have rch:∀L,N6 E i j L↔iZ (ew E) i j L:=fun L=>⟨fun h=>by rcases h with⟨h,_⟩|h;exact absurd h.symm Zq;omega,.inr⟩;have hs:=aec (w:=ew E) (fun a b c h=>(hE _ h).1) hd.fw hi hj (hd.low i j hi hj) (fun L adB hw=>by
  rcases hD with⟨_,h⟩|⟨L',_,hle,h1,h2⟩
  ·simp_all
  grind)
 rcases hD with⟨e,h⟩|⟨L',e,hle,h1,h2⟩
 ·left;refine⟨e,?_⟩;have anZ:=hd.fw.top i j hi hj;by_cases bF:dk n (start inf E) n i j<inf
  ·exact absurd ((rch _).2 (hd.fw.real i j hi hj bF)) (h _)
  omega
 ·right;have:(if dk n (start inf E) n i j<inf then some (dk n (start inf E) n i j)else none)=some L':=hs.unique ⟨(rch L').1 h1,fun L'' hw=>h2 L'' ((rch L'').2 hw)⟩;simp_all
def EX(n:Nat)(r:Nat→Nat):List PV:=(List.range n).map fun j=>.int .i64 (r j)
def sF(n:Nat)(d:Mx):List PV:=(List.range n).map fun i=>.qg 1 (EX n (d i))
theorem Bp(n:Nat)(d:Mx):(sF n d).length=n:=by simp[sF]
theorem yD(n:Nat)(r:Nat→Nat):(EX n r).length=n:=by simp[EX]
theorem yE{n i:Nat}(d:Mx)(h:i<n):(sF n d)[i]?=some (.qg 1 (EX n (d i))):=by simp[sF,h]
theorem Bq{n j:Nat}(r:Nat→Nat)(h:j<n):(EX n r)[j]?=some (.int .i64 (r j)):=by simp[EX,h]
theorem P0{n i j:Nat}(d:Mx)(x:Nat)(hi:i<n)(hj:j<n):(sF n d).set i (.qg 1 ((EX n (d i)).set j (.int .i64 x)))=sF n (HJ d i j x):=by
 apply aox;intro a;rw[aoO];by_cases e:i=a
 ·subst e;rw[No rfl,No (by rw[Bp];omega),yE _ hi];congr 2;apply aox;intro b;rw[aoO];by_cases e:j=b
  ·subst e;rw[No rfl,No (by rw[yD];omega),Bq _ hj];simp[HJ]
  ·rw[QU e];by_cases hb:b<n
   ·simp_all[Bq,HJ,Ne.symm]
   simp_all[aoY,yD]
 ·rw[QU e];by_cases ha:a<n
  ·rw[yE _ ha,yE _ ha];simp_all[congr,EX,aoB,HJ,Ne.symm]
  simp_all[aoY,Bp]
theorem asR(es:List PV):dQ 1 (cell (.qg 1 es) 0)=some es:=rfl
theorem cI(x:Int):cell (.int .i64 x) 0=.int .i64 x:=rfl
theorem ajc(e p:PV):setRow 1 e 0 p=p:=rfl
theorem ajd(q p:PV):setCells 1 q 0 1 p=p:=rfl
abbrev rU:Nat:=1099511627776
theorem XF(n:Nat):List.replicate n (PV.qg 1 (List.replicate n (PV.int .i64 1099511627776)))=sF n (UR rU):=by
 unfold sF EX UR;apply aox;intro i;by_cases hi:i<n
 ·have:(List.range n).map (fun j=>PV.int .i64 ((rU:Nat):Int))=List.replicate n (PV.int .i64 1099511627776):=by apply aox;grind
  simp_all
 simp_all
theorem XG(n:Nat)(d:Mx):(sF n d).map PV.strip=fv n fun i j=>((d i j:Nat):Int):=by unfold sF fv EX Ao;rw[apL];rfl
theorem NU(fr:Bool)(l:List Fp)(p:Fp):counted fr (l++[p])=if(fr&& !p.free)=true then counted fr l else counted fr l++[p.ed]:=by unfold counted;grind
def fpI(i k:Nat)(s:Int)(b:Bool):PV:=.agg [.int .i64 i,.int .i64 k,.int .i64 s,.bool b]
def HK(w f:Int)(i k:Nat):List PV:=if i=k∨w>14400 then[]else fpI i k w (f==w)::(if f>w∧f≤14400 then[fpI i k f true]else[])
def Bs(n:Nat)(it:Nat→Nat→List PV)(i:Nat):List PV:=(List.range n).flatMap (it i)
def DJ(n:Nat)(it:Nat→Nat→List PV)(m:Nat):List PV:=(List.range m).flatMap (Bs n it)
theorem Gb(n:Nat)(it:Nat→Nat→List PV)(i:Nat):Bs (n+1) it i=Bs n it i++it i n:=by simp[Bs,aoQ,apQ]
theorem Gd(n:Nat)(it:Nat→Nat→List PV)(m:Nat):DJ n it (m+1)=DJ n it m++Bs n it m:=by simp[DJ,aoQ,apQ]
theorem EY{it:Nat→Nat→List PV}(h:∀i k,(it i k).length≤2)(i:Nat):∀k,(Bs k it i).length≤2*k
 |0=>by simp[Bs]
 |k+1=>by rw[Gb,aob];have:=EY h i k;have:=h i k;omega
theorem EZ{it:Nat→Nat→List PV}(h:∀i k,(it i k).length≤2)(n:Nat):∀m,(DJ n it m).length≤2*n*m
 |0=>by simp[DJ]
 |m+1=>by rw[Gd,aob,Nat.mul_succ];have:=EZ h n m;have:=EY h m n;omega
theorem NW(w f:Int)(i k:Nat):(HK w f i k).length≤2:=by grind [HK]
theorem Mh{n k:Nat}(D:Nat→Int)(h:k<n):(Ao n D)[k]?=some (.int .i64 (D k)):=by simp[Ao,h]
theorem Gc{n i:Nat}(D:Nat→Nat→Int)(h:i<n):(fv n D)[i]?=some (.rs 1 (Ao n (D i))):=by simp[fv,h]
theorem agp(es:List PV):ah 1 (cell (.rs 1 es) 0)=some es:=by rfl
theorem yQ{a:List PV}(h:a.length≤16384):a.length*32≤ab∧0<32:=by unfold ab;omega
def fQ(n:Nat)(l:List Fp)(fr:Bool)(i j:Nat):Int:=((dk n (start rU (counted fr l)) n i j:Nat):Int)
def Rj(w f:Int)(i k:Nat):List PV:=if i=k then[]else(if 0<w∧w≤14400 then[fpI i k w (f==w)]else[])++(if f≠w∧0<f∧f≤14400 then[fpI i k f true]else[])
theorem iZ.pos{w:Nat→Nat→Nat→Prop}(h:∀i j c,w i j c→1≤c){i j L:Nat}(hw:iZ w i j L):1≤L:=by
 cases hw with
 |A9 e=>exact h _ _ _ e
 |snoc _ e=>have:=h _ _ _ e;omega
def aeh(M:Nat)(d w:Int):Prop:=(d= -1∧w=(rU:Int))∨(d=w∧1≤w∧w≤M)
theorem ajA{M:Nat}(hM:M<rU){d0 d1 w f:Int}(h0:aeh M d0 w)(h1:aeh M d1 f)(h10:d1≠-1→d0≠-1∧d0≤d1)(i k:Nat):Rj d0 d1 i k=HK w f i k:=by
 unfold Rj HK;by_cases SS:i=k
 ·simp_all
 ·rw[QU SS];have hM:(M:Int)<1099511627776:=by grind
  have ai9:((rU:Nat):Int)=1099511627776:=rfl;rw[aeh,ai9]at h0 h1;rcases h0 with⟨e0,w0⟩|⟨e0,w1,w2⟩
  ·simp_all
  ·subst e0;rcases h1 with⟨e1,f0⟩|⟨e1,f1,f2⟩
   ·by_cases hw:d0≤14400
    ·have b1:(d1==d0)=false:=by grind
     have b2:(f==d0)=false:=by grind
     grind
    simp_all
   grind
theorem aei{l:List Fp}{n B:Nat}(hn:n≤64)(hB:B≤1073741824)(h:∀p∈l,p.a<n∧p.b<n∧1≤p.c∧p.c≤B)(fr:Bool){i k:Nat}(hi:i<n)(hk:k<n)(SS:i≠k){d:Int}(hd:Te (counted fr l) (B*n) i k d):aeh (B*n) d (fQ n l fr i k):=by
 have hE:∀y∈counted fr l,y.f<n∧y.t<n∧1≤y.c:=fun y hy=>by obtain⟨p,hp,rfl⟩:=wg hy;obtain⟨a,b,c,_⟩:=h p hp;exact⟨a,b,c⟩
 have hM:B*n<rU:=by have:B*n≤1073741824*64:=apR hB hn;grind
 rcases aeg (inf:=rU) (fun y hy=>⟨(hE y hy).1,(hE y hy).2.1⟩) hM hi hk SS hd with⟨e1,e2⟩|⟨e1,e2⟩
 ·exact .inl ⟨e1,by unfold fQ;omega⟩
 ·refine .inr ⟨e1,?_,by unfold fQ;omega⟩;rcases hd with⟨e,_⟩|⟨L,e,_,hr,_⟩
  ·omega
  ·have:1≤L:=by
    rcases hr with⟨h,_⟩|hw
    ·omega
    ·exact hw.pos fun a b c hc=>(hE _ hc).2.2
   unfold fQ;omega
theorem aej{l:List Fp}{M i k:Nat}{d0 d1:Int}(h0:Te (counted false l) M i k d0)(h1:Te (counted true l) M i k d1)(bU:d1≠-1):d0≠-1∧d0≤d1:=by
 have sub:∀y,y∈counted true l→y∈counted false l:=fun y hy=>by unfold counted at hy⊢;grind
 rcases h1 with⟨e,_⟩|⟨L1,e1,_,r1,_⟩
 ·omega
 ·have r:=r1.mem sub;rcases h0 with⟨_,h⟩|⟨L0,e0,_,_,m0⟩
  ·exact absurd r (h L1)
  simp_all
theorem US(w f:Int)(i k:Nat):(Rj w f i k).length≤2:=by grind [Rj,List.length_append]
theorem XX(NV:TY8→Option PV)(n i:Nat)(W F:Nat→Nat→Int)(hn:n≤64)(hi:i<n)(acc:List PV)(amQ:acc.length≤8192):aV.run (iE aV NV) (fv n W,fv n F,(i:Int),(n:Int),(i:Int),Ao n (W i),(n:Int),0,acc,())=NV (fv n W,fv n F,(n:Int),IntKind.i64.wrap ((i:Int)+1),acc++Bs n (fun i k=>Rj (W i k) (F i k) i k) i,()):=by
 refine aM (fun k=>(fv n W,fv n F,(i:Int),(n:Int),(i:Int),Ao n (W i),(n:Int),(k:Int),acc++Bs k (fun i k=>Rj (W i k) (F i k) i k) i,())) n (fun k hk rec=>?_) (fun rec=>?_) (by unfold rounds;omega) (by simp[Bs])
 ·unfold iE;dsimp only;have hg:decide ((k:Int)<(n:Int))=true:=by simp;omega
  rw[Gb];have hlen:=EY (it:=fun i k=>Rj (W i k) (F i k) i k) (fun i k=>US _ _ i k) i k;generalize hA:acc++Bs k (fun i k=>Rj (W i k) (F i k) i k) i=A;have hAl:A.length≤8192+128:=by grind
  rw[←aow,hA];simp only[hg,BY,af,Mh _ hk,Gc _ hi,U,agp,cI,KC,ag (show k<9223372036854775807 by omega)];generalize W i k=w;generalize F i k=f;by_cases SS:i=k
  ·simp_all[Rj,No,BY,aoM]
  ·have hb:((i:Int)==(k:Int))=false:=by grind
   have hand:∀x:Int,(bif decide (x>0)then some (decide (x≤14400))else some false)=some (decide (0<x∧x≤14400)):=fun x=>by grind
   have hr1:(A++[PV.agg [.int .i64 i,.int .i64 k,.int .i64 w,.bool (f==w)]]).length*32≤ab∧0<32:=yQ (by simp;omega);have RQ:(A++[PV.agg [.int .i64 i,.int .i64 k,.int .i64 w,.bool (f==w)]]++[PV.agg [.int .i64 i,.int .i64 k,.int .i64 f,.bool true]]).length*32≤ab∧0<32:=yQ (by simp;omega);have hr3:(A++[PV.agg [.int .i64 i,.int .i64 k,.int .i64 f,.bool true]]).length*32≤ab∧0<32:=yQ (by simp;omega);have bU:(f !=w)=decide (f≠w):=by grind
   have hit:Rj w f i k=(if 0<w∧w≤14400 then[fpI i k w (f==w)]else[])++(if f≠w∧0<f∧f≤14400 then[fpI i k f true]else[]):=QU SS;simp only[hb,AI,OF,hand,U,bU,tc,hit,No hr1,No RQ,No hr3];by_cases h1:0<w∧w≤14400
   ·by_cases h2:f≠w
    ·by_cases h3:0<f∧f≤14400
     ·rw[No h1,No h2,No h3,No h1,No ⟨h2,h3⟩,aow];rfl
     ·rw[No h1,No h2,QU h3,No h1,QU (fun h=>h3 h.2)];rfl
    ·rw[No h1,QU h2,No h1,QU (fun h=>h2 h.1)];rfl
   ·by_cases h2:f≠w
    ·by_cases h3:0<f∧f≤14400
     ·rw[QU h1,No h2,No h3,QU h1,No ⟨h2,h3⟩];rfl
     grind
    grind
 simp[iE,QU]
theorem Tg(n:Nat)(W F:Nat→Nat→Int)(hn:n≤64){es':List PV}(hs:Bc 4 (fun c a b=>cr [a,b]) (DJ n (fun i k=>Rj (W i k) (F i k) i k) n)=some es'):aV.run (iF aV) (fv n W,fv n F,(n:Int),0,[],())=some (.rs 4 es'):=by
 have hlen:∀i,i≤n→(DJ n (fun i k=>Rj (W i k) (F i k) i k) i).length≤8192:=fun i hi=>by have h1:=EZ (it:=fun i k=>Rj (W i k) (F i k) i k) (fun i k=>US _ _ i k) n i;have hb:2*n*i≤2*64*64:=apR (by omega) (by omega);omega
 refine aM (fun i=>(fv n W,fv n F,(n:Int),(i:Int),DJ n (fun i k=>Rj (W i k) (F i k) i k) i,())) n (fun i hi rec=>?_) (fun rec=>?_) (by unfold rounds;omega) rfl
 ·unfold iF;dsimp only;have hg:decide ((i:Int)<(n:Int))=true:=by simp;omega
  have W4:((Ao n (W i)).length:Int)=(n:Int):=by simp[Ao]
  rw[No hg,af,Gc _ hi,U,agp,U,W4,XX rec n i W F hn hi _ (hlen i (by omega)),Gd,ag (by omega)]
 ·unfold iF;dsimp only;have h:=hlen n (aoa _);rw[QU (by simp),No (by(first|refine⟨rfl,?_,rfl⟩|refine⟨rfl,?_⟩);unfold ab;omega),hs];rfl
def kI:PV→Int
 |.int _ n=>n
 |_=>0
def c3(x y:Int):Int:=if x<y then-1 else if x>y then 1 else 0
def or3(a b c:Int):Int:=if a≠0 then a else if b≠0 then b else c
def cfp(a b:List PV):Int:=or3 (c3 (kI (a.getD 0 .bad)) (kI (b.getD 0 .bad))) (c3 (kI (a.getD 1 .bad)) (kI (b.getD 1 .bad))) (c3 (kI (a.getD 2 .bad)) (kI (b.getD 2 .bad)))
theorem Th(x y:Int):fx [.int .i64 x,.int .i64 y]=some (.int .i64 (c3 x y)):=by
 have h:∀z:Int,¬(z !=z)=true:=fun z=>by simp
 simp only[fx,sJ,KC,U,QU (h x),QU (h y),tc];unfold c3;grind
theorem ajB(a b c:Int):tK [.rs 1 [.int .i64 a,.int .i64 b,.int .i64 c]]=some (.int .i64 (or3 a b c)):=by
 have e0:ah 1 (.rs 1 [.int .i64 a,.int .i64 b,.int .i64 c])=some [.int .i64 a,.int .i64 b,.int .i64 c]:=by rfl
 simp only[tK,DQ,e0,U];obtain⟨es,OB⟩:∃es,es=[PV.int .i64 a,.int .i64 b,.int .i64 c]:=⟨_,rfl⟩;have hl:((es.length:Nat):Int)=3:=by rw[OB];rfl
 rw[←OB];have hb:∀(k:Nat)(x:Int),es[k]?=some (.int .i64 x)→k<3→∀rec,eT (0,es,((es.length:Nat):Int),(k:Int),()) rec=if x≠0 then some (.int .i64 x)else rec (0,es,((es.length:Nat):Int),((k+1:Nat):Int),()):=fun k x hx hk rec=>by
  unfold eT;dsimp only;have hg:decide ((k:Int)<((es.length:Nat):Int))=true:=by rw[hl];simp;omega
  rw[No hg,af,hx,U,cI,KC,U,ag (by omega)];simp
 have he:∀rec,eT (0,es,((es.length:Nat):Int),((3:Nat):Int),()) rec=some (.int .i64 0):=fun rec=>by unfold eT;simp_all
 have hN:rounds=18446744073709551612+1+1+1+1:=rfl;rw[vV,hN];generalize 18446744073709551612=N;show eT (0,es,((es.length:Nat):Int),((0:Nat):Int),()) _=_;rw[hb 0 a (by rw[OB];rfl) (by omega)];unfold or3;by_cases h1:a≠0
 ·simp_all
 ·rw[QU h1,QU h1];show eT (0,es,((es.length:Nat):Int),((1:Nat):Int),()) _=_;rw[hb 1 b (by rw[OB];rfl) (by omega)];by_cases h2:b≠0
  ·simp_all
  ·rw[QU h2,QU h2];show eT (0,es,((es.length:Nat):Int),((2:Nat):Int),()) _=_;rw[hb 2 c (by rw[OB];rfl) (by omega)];by_cases h3:c≠0
   ·rw[No h3]
   ·rw[QU h3];show eT (0,es,((es.length:Nat):Int),((3:Nat):Int),()) _=_;simp_all
def NR(i k:Nat)(s:Int)(b:Bool):List PV:=[.int .i64 i,.int .i64 k,.int .i64 s,.bool b]
theorem aa5(i k:Nat)(s:Int)(b:Bool)(i' k':Nat)(s':Int)(b':Bool):cr [CM (NR i k s b),CM (NR i' k' s' b')]=some (.int .i64 (cfp (NR i k s b) (NR i' k' s' b'))):=by have a:∀(w x y z:PV),asAgg 4 (.agg [w,x,y,z])=some ():=fun _ _ _ _=>rfl;have a0:∀(w x y z:PV),cell (.agg [w,x,y,z]) 0=w:=fun _ _ _ _=>rfl;have a1:∀(w x y z:PV),cell (.agg [w,x,y,z]) 1=x:=fun _ _ _ _=>rfl;have a2:∀(w x y z:PV),cell (.agg [w,x,y,z]) 2=y:=fun _ _ _ _=>rfl;have a3:∀(w x y z:PV),cell (.agg [w,x,y,z]) 3=z:=fun _ _ _ _=>rfl;simp only[cr,nH,CM,NR,a,a0,a1,a2,a3,KC,asBool,U,Th,ajB];rfl
theorem aa6(x y:Int):(c3 x y<0↔x<y)∧(c3 x y=0↔x=y):=by grind [c3]
theorem Gm(i k:Nat)(s:Int)(b:Bool)(i' k':Nat)(s':Int)(b':Bool):cfp (NR i k s b) (NR i' k' s' b')<0↔i<i'∨(i=i'∧(k<k'∨(k=k'∧s<s'))):=by show or3 (c3 (i:Int) (i':Int)) (c3 (k:Int) (k':Int)) (c3 s s')<0↔_;have h1:=aa6 (i:Int) (i':Int);grind [aa6,or3]
def IsF(e:List PV):Prop:=∃i k s b,e=NR i k s b
variable{ns:List (List PV)}
theorem Ti(h:ns.Pairwise fun a b=>cfp a b<0):∀a∈ns,∀b∈ns,¬cfp a b<0→¬cfp b a<0→a=b:=by
 induction h with
 |nil=>simp
 | @cons x l hx _ ih=>grind
theorem Qr(hF:∀e∈ns,IsF e)(h:ns.Pairwise fun a b=>cfp a b<0):lz 4 (fun c a b=>cr [a,b]) ns ns cfp where
 len a ha:=by obtain⟨i,k,s,b,rfl⟩:=hF a ha;rfl
 WH a ha p hp:=by obtain⟨i,k,s,b,rfl⟩:=hF a ha;simp only[NR,aoc,aqP,or_false]at hp;rcases hp with rfl|rfl|rfl|rfl<;>rfl
 perm:=List.Perm.refl _
 reads c _ _ a ha b hb:=by obtain⟨i,k,s,q,rfl⟩:=hF a ha;obtain⟨i',k',s',q',rfl⟩:=hF b hb;exact aa5 ..
 irrefl a ha:=by obtain⟨i,k,s,q,rfl⟩:=hF a ha;rw[Gm];omega
 trans a ha b hb c hc h1 h2:=by obtain⟨i,k,s,q,rfl⟩:=hF a ha;obtain⟨i',k',s',q',rfl⟩:=hF b hb;obtain⟨i2,k2,s2,q2,rfl⟩:=hF c hc;rw[Gm]at*;omega
 total:=Ti h
 sorted:=h.imp_of_mem fun{a b}ha hb sn=>by obtain⟨i,k,s,q,rfl⟩:=hF a ha;obtain⟨i',k',s',q',rfl⟩:=hF b hb;rw[Gm]at*;omega
def PU(w f:Int)(i k:Nat):List (List PV):=if i=k∨w>14400 then[]else NR i k w (f==w)::(if f>w∧f≤14400 then[NR i k f true]else[])
theorem aek(w f:Int)(i k:Nat):(PU w f i k).map CM=HK w f i k:=by
 unfold PU HK;split
 ·rfl
 ·split<;>rfl
def Bm(n:Nat)(W F:Nat→Nat→Int):List (List PV):=(List.range n).flatMap fun i=>(List.range n).flatMap fun k=>PU (W i k) (F i k) i k
theorem F6(n:Nat)(W F:Nat→Nat→Int):fu (Bm n W F)=DJ n (fun i k=>HK (W i k) (F i k) i k) n:=by unfold fu Bm DJ Bs;rw[List.map_flatMap];congr 1;funext i;rw[List.map_flatMap];congr 1;funext k;exact aek ..
theorem Cz{w f:Int}{i k:Nat}{e:List PV}(h:e∈PU w f i k):∃s b,e=NR i k s b:=by unfold PU at h;grind
theorem JE(n:Nat)(W F:Nat→Nat→Int):∀e∈Bm n W F,IsF e:=fun e h=>by obtain⟨i,_,h⟩:=aoE.1 h;obtain⟨k,_,h⟩:=aoE.1 h;obtain⟨s,b,rfl⟩:=Cz h;exact⟨i,k,s,b,rfl⟩
theorem Qs(n:Nat)(W F:Nat→Nat→Int):(Bm n W F).Pairwise fun a b=>cfp a b<0:=by
 unfold Bm;rw[apc];refine⟨fun i _=>?_,List.pairwise_lt_range.imp fun{i i'}hii x hx y hy=>?_⟩
 ·rw[apc];refine⟨fun k _=>?_,List.pairwise_lt_range.imp fun{k k'}xU x hx y hy=>?_⟩
  ·unfold PU;split
   ·simp
   grind [Gm]
  ·obtain⟨s,b,rfl⟩:=Cz hx;obtain⟨s',b',rfl⟩:=Cz hy;rw[Gm];omega
 ·obtain⟨k,_,hx⟩:=aoE.1 hx;obtain⟨k',_,hy⟩:=aoE.1 hy;obtain⟨s,b,rfl⟩:=Cz hx;obtain⟨s',b',rfl⟩:=Cz hy;rw[Gm];omega
theorem S3(l:List Fp)(n:Nat)(hn:n≤64)(hl:l.length≤8192)(h:∀p∈l,p.a<n∧p.b<n∧1≤p.c∧p.c≤14400):eN [.rs 4 (l.map Fp.pv),.int .i64 n]=some (.rs 4 (fu (Bm n (fQ n l false) (fQ n l true)))):=by
 have hB:(14400:Nat)≤1073741824:=by omega
 obtain⟨D0,d0,e0⟩:=UQ l n 14400 hn hl hB (fun p hp=>⟨(h p hp).1,(h p hp).2.1,(h p hp).2.2.2⟩) false;obtain⟨D1,d1,e1⟩:=UQ l n 14400 hn hl hB (fun p hp=>⟨(h p hp).1,(h p hp).2.1,(h p hp).2.2.2⟩) true;have hM:14400*n<rU:=by grind
 have RZ:DJ n (fun i k=>Rj (D0 i k) (D1 i k) i k) n=fu (Bm n (fQ n l false) (fQ n l true)):=by
  rw[F6];unfold DJ Bs;rw[aps,aps];congr 1;apply aoB;intro i hi;rw[aps,aps];congr 1;apply aoB;intro k hk;have hi:=aoA.1 hi;have hk:=aoA.1 hk;dsimp only;by_cases SS:i=k
  ·simp_all[Rj,No,HK,fQ]
  grind [ajA,aei,aej]
 have a0:ah 4 (.rs 4 (l.map Fp.pv))=some (l.map Fp.pv):=by rfl
 have a1:∀es,ah 1 (.rs 1 es)=some es:=fun es=>by rfl
 have hlen:((fv n D0).length:Int)=(n:Int):=by simp[fv]
 simp only[eN,qR,a0,KC,U,e0,e1,a1,hlen];exact Tg n D0 D1 hn (by rw[RZ];exact Xj (Qr (JE _ _ _) (Qs _ _ _)))
end Go.Ab.Nw
