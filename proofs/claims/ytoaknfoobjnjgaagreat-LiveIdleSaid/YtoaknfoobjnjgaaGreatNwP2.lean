import Derived.Test.YtoaknfoobjnjgaaGreatNwP1
set_option linter.all false
namespace Go.Ab.Nw
set_option maxRecDepth 100000
def RN(E:List Ed)(M:Nat)(s v:Nat)(d:Int):Prop:=(d= -1∧∀L,¬Mz E s v L)∨∃L:Nat,d=L∧L≤M∧Mz E s v L∧∀L',Mz E s v L'→L≤L'
theorem RN.unique{E:List Ed}{M M' s v:Nat}{d d':Int}(h:RN E M s v d)(h':RN E M' s v d'):d=d':=by
 rcases h with⟨e,h⟩|⟨L,e,_,h1,h2⟩
 ·rcases h' with⟨e',_⟩|⟨L',_,_,h1',_⟩
  ·omega
  simp_all
 ·rcases h' with⟨_,h'⟩|⟨L',e',_,h1',h2'⟩
  ·exact absurd h1 (h' L)
  grind
theorem Mz.mem{E E':List Ed}(h:∀y,y∈E→y∈E'){s v L:Nat}(hr:Mz E s v L):Mz E' s v L:=by
 rcases hr with hr|hr
 ·exact .inl hr
 ·exact .inr (hr.mono fun i j c hc=>h _ hc)
theorem RN.mem{E E':List Ed}(h:∀y,y∈E↔y∈E'){M s v:Nat}{d:Int}(hd:RN E M s v d):RN E' M s v d:=by
 rcases hd with⟨e,h1⟩|⟨L,e,hM,h1,h2⟩
 ·exact .inl ⟨e,fun L hL=>h1 L (hL.mem fun y hy=>(h y).2 hy)⟩
 ·exact .inr ⟨L,e,hM,h1.mem fun y hy=>(h y).1 hy,fun L' hL=>h2 L' (hL.mem fun y hy=>(h y).2 hy)⟩
def yy(n:Nat)(D:Nat→Int):List PV:=(List.range n).map fun v=>.int .i64 (D v)
def fq(n:Nat)(D:Nat→Nat→Int):List PV:=(List.range n).map fun s=>.rs 1 (yy n (D s))
variable{D:Nat→Nat→Int}
theorem Pg{n:Nat}{D':Nat→Nat→Int}(h:∀s v,s<n→v<n→D s v=D' s v):fq n D=fq n D':=by unfold fq;apply an2;simp_all[yy,congr,an2]
theorem ZG(E:List Ed)(n B:Nat)(hn:n≤64)(hE:E.length≤4096)(hB:B≤1073741824)(h:∀y∈E,y.f<n∧y.t<n∧y.c≤B):∃D:Nat→Nat→Int,(∀s v,s<n→v<n→RN E (B*n) s v (D s v))∧jg [.int .i64 n,.rs 3 (E.map Ed.pv)]=some (.aV [.rs 1 (fq n D),.int .i64 0]):=by
 have h':∀y∈E,y.f<n∧y.t<n∧y.c≤1073741824:=fun y hy=>⟨(h y hy).1,(h y hy).2.1,by grind⟩;have hG:=ZF E n hn hE h';have each:∀s,∃o:qq,s<n→(∃pu,DI E n s B o pu [])∧gW [.int .i64 n,.rm 3 ((Pf (Cd E)).map fun x=>x.1) ((Pf (Cd E)).map fun x=>x.2.pW),.int .i64 s]=some (.rs 3 (eD n o)):=fun s=>by
  by_cases hs:s<n
  ·grind [Wc]
  ·exact⟨fun _=>none,fun h=>absurd h hs⟩
 obtain⟨o,ho⟩:=Classical.axiomOfChoice each;refine⟨fun s v=>MB (o s v),fun s v hs hv=>?_,?_⟩
 ·obtain⟨⟨pu,hI⟩,_⟩:=ho s hs;have:=hI.done h hv;cases hl:o s v with
  |none=>rw[hl]at this;exact .inl ⟨by dsimp only;rw[hl];rfl,this⟩
  |some p=>obtain⟨L,e⟩:=p;rw[hl]at this;exact .inr ⟨L,by dsimp only;rw[hl];rfl,this.1,this.2.1,this.2.2⟩
 ·have e0:ak 3 (.rs 3 (E.map Ed.pv))=some (E.map Ed.pv):=by rfl
  have cr:(0:Int)≤(n:Int)∧(n:Int)≤(n:Int)∧n*24≤aa∧0<24∧0<1:=by grind [aa]
  have hz:((0:Int) !=0)=false:=rfl;simp only[jg,xP,Ja,e0,U,ZD E n hn hE h',hz,tc,PS,MD E hE,cS,IS,agY,BY cr,aoc];refine bh (fun k=>((n:Int),PV.rm 3 ((Pf (Cd E)).map fun x=>x.1) ((Pf (Cd E)).map fun x=>x.2.pW),(n:Int),(k:Int),u9 n k (fun s=>.rs 1 (yy n fun v=>MB (o s v))) (.rs 0 []),())) n (fun k hk rec=>?_) (fun rec=>?_) (by unfold rounds;omega) ?_
  ·unfold mJ;dsimp only;have hg:decide ((k:Int)<(n:Int))=true:=by simp;omega
   have e3:ak 3 (.rs 3 (eD n (o k)))=some (eD n (o k)):=by rfl
   have e1:ak 1 (.rs 1 ((List.range n).map fun v=>PV.int .i64 (MB (o k v))))=some ((List.range n).map fun v=>PV.int .i64 (MB (o k v))):=by rfl
   rw[BY hg,(ho k hk).2,U,e3,U,RM n hn,U,e1,U,BY (Gg (by rw[Pa];omega)),agY,Pb hk,U,ah (by omega)];simp_all[Pc,yy,MB]
  ·unfold mJ;dsimp only;rw[IT (by simp),Pd];rfl
  ·rw[KH];rfl
theorem ZH(E E':List Ed)(n B:Nat)(hn:n≤64)(hE:E'.length≤4096)(hB:B≤1073741824)(h:∀y∈E,y.f<n∧y.t<n∧y.c≤B)(he:∀y,y∈E↔y∈E')(hD:∀s v,s<n→v<n→RN E (B*n) s v (D s v)):jg [.int .i64 n,.rs 3 (E'.map Ed.pv)]=some (.aV [.rs 1 (fq n D),.int .i64 0]):=by obtain⟨D',d1,d2⟩:=ZG E' n B hn hE hB fun y hy=>h y ((he y).2 hy);rw[d2,Pg fun s v hs hv=>((hD s v hs hv).mem he).unique (d1 s v hs hv)]
structure Fp where
 a:Nat
 b:Nat
 c:Nat
 free:Bool
 deriving DecidableEq
def Fp.pv(p:Fp):PV:=.agg [.int .i64 p.a,.int .i64 p.b,.int .i64 p.c,.bool p.free]
theorem fp0(p:Fp):cell p.pv 0=.int .i64 p.a:=rfl
theorem fp1(p:Fp):cell p.pv 1=.int .i64 p.b:=rfl
theorem fp2(p:Fp):cell p.pv 2=.int .i64 p.c:=rfl
theorem fp3(p:Fp):cell p.pv 3=.bool p.free:=rfl
def Fp.ed(p:Fp):Ed:=⟨p.a,p.b,p.c⟩
def vP(z:Ed):List Ed→List Ed
 |[]=>[z]
 |e::r=>if z.f=e.f∧z.t=e.t then z::r else e::vP z r
def Dh(a b:Nat):List Ed→Option Nat
 |[]=>none
 |e::r=>if a=e.f∧b=e.t then some e.c else Dh a b r
theorem It(a b:Nat)(z:Ed):∀m,Dh a b (vP z m)=if a=z.f∧b=z.t then some z.c else Dh a b m
 |[]=>rfl
 |e::r=>by
  simp only[vP];by_cases h:z.f=e.f∧z.t=e.t
  ·simp_all[BY,Dh,IT]
  ·rw[IT h];simp only[Dh];by_cases h2:a=e.f∧b=e.t
   ·grind
   simp_all[IT,It]
theorem Ph(z e:Ed):∀m,e∈vP z m→e=z∨e∈m
 |[],h=>by simp[vP]at h;exact .inl h
 |x::r,h=>by
  simp only[vP]at h;split at h
  ·rcases anA.1 h with h|h
   ·exact .inl h
   ·exact .inr (by simp[h])
  ·rcases anA.1 h with h|h
   ·exact .inr (by simp[h])
   ·rcases Ph z e r h with h|h
    ·exact .inl h
    ·exact .inr (by simp[h])
theorem Pj{a b x:Nat}:∀{m:List Ed},Dh a b m=some x→∃e∈m,e.f=a∧e.t=b∧e.c=x
 |[],h=>by cases h
 |e::r,h=>by
  simp only[Dh]at h;split at h
  ·simp_all
  simp_all[Pj]
theorem Pk(z:Ed):∀m,(vP z m).length≤m.length+1
 |[]=>by simp[vP]
 |e::r=>by
  simp only[vP];split
  ·simp
  ·have:=Pk z r;simp;omega
def Pl(fr:Bool)(m:List Ed)(p:Fp):List Ed:=if(fr&& !p.free)=true then m else match Dh p.a p.b m with
 |none=>vP p.ed m
 |some x=>if p.c<x then vP p.ed m else m
def lK(fr:Bool)(l:List Fp):List Ed:=l.foldl (Pl fr) []
theorem Ez(fr:Bool)(l:List Fp)(p:Fp):lK fr (l++[p])=Pl fr (lK fr l) p:=by simp[lK]
def counted(fr:Bool)(l:List Fp):List Ed:=(l.filter fun p=> !(fr&& !p.free)).map Fp.ed
theorem ME(fr:Bool)(l:List Fp):(∀e∈lK fr l,e∈counted fr l)∧(∀e∈counted fr l,∃x,Dh e.f e.t (lK fr l)=some x∧x≤e.c)∧(lK fr l).length≤l.length:=by
 rw[←apt l];induction l.reverse with
 |nil=>simp[lK,counted,anz]
 |cons p l ih=>
  rw[List.reverse_cons,Ez];obtain⟨i1,i2,i3⟩:=ih;have hc:counted fr (l.reverse++[p])=counted fr l.reverse++(if(fr&& !p.free)=true then[]else[p.ed]):=by unfold counted;grind
  rw[hc];unfold Pl;by_cases h:(fr&& !p.free)=true
  ·grind
  ·rw[IT h,IT h];have put:(∀e∈vP p.ed (lK fr l.reverse),e∈counted fr l.reverse++[p.ed]):=fun e he=>by
    rcases Ph _ _ _ he with rfl|he
    ·simp
    simp_all
   have len:(vP p.ed (lK fr l.reverse)).length≤(l.reverse++[p]).length:=by grind [Pk,lK]
   cases hb:Dh p.a p.b (lK fr l.reverse)with
   |none=>
    refine⟨put,fun e he=>?_,len⟩;rw[It];by_cases hk:e.f=p.ed.f∧e.t=p.ed.t
    ·rw[BY hk];rcases anO.1 he with he|he
     ·obtain⟨x,h1,_⟩:=i2 e he;rw[hk.1,hk.2]at h1;rw[show p.ed.f=p.a from rfl,show p.ed.t=p.b from rfl,hb]at h1;cases h1
     simp_all
    grind
   |some x=>
    dsimp only;by_cases hx:p.c<x
    ·rw[BY hx];refine⟨put,fun e he=>?_,len⟩;rw[It];by_cases hk:e.f=p.ed.f∧e.t=p.ed.t
     ·rw[BY hk];rcases anO.1 he with he|he
      ·obtain⟨y,h1,h2⟩:=i2 e he;rw[hk.1,hk.2,show p.ed.f=p.a from rfl,show p.ed.t=p.b from rfl,hb]at h1;cases h1;exact⟨_,rfl,by show p.c≤e.c;omega⟩
      simp_all
     grind
    ·rw[IT hx];refine⟨fun e he=>aqI _ (i1 e he),fun e he=>?_,by simp at i3⊢;omega⟩;rcases anO.1 he with he|he
     ·exact i2 e he
     ·simp at he;subst he;exact⟨x,hb,by show x≤p.c;omega⟩
def pz(e:Ed):PV×PV:=(.agg [.int .i64 e.f,.int .i64 e.t,.bool false],.int .i64 e.c)
theorem ail(a b c d:Nat):bR (PV.agg [.int .i64 a,.int .i64 b,.bool false]).cells (PV.agg [.int .i64 c,.int .i64 d,.bool false]).cells=decide (a=c∧b=d):=by
 have h:∀x y:Nat,((x:Int)==(y:Int))=decide (x=y):=fun x y=>by grind
 simp only[PV.cells,bR,peq,apd,h,beq_self_eq_true,Bool.decide_and]
theorem aeJ(a b:Nat):∀m:List Ed,bT (.agg [.int .i64 a,.int .i64 b,.bool false]) (.int .i64 0) (m.map pz)=.int .i64 (((Dh a b m).getD 0:Nat):Int)∧me (.agg [.int .i64 a,.int .i64 b,.bool false]) (m.map pz)=(Dh a b m).isSome
 |[]=>⟨rfl,rfl⟩
 |e::r=>by obtain⟨h1,h2⟩:=aeJ a b r;simp only[anB,pz,bT,me,ail,Dh];grind
theorem af3(z:Ed):∀m:List Ed,dr (.agg [.int .i64 z.f,.int .i64 z.t,.bool false]) (.int .i64 z.c) (m.map pz)=(vP z m).map pz
 |[]=>rfl
 |e::r=>by
  have ih:=af3 z r;simp only[anB,dr,vP];rw[show(pz e)=(PV.agg [.int .i64 e.f,.int .i64 e.t,.bool false],PV.int .i64 e.c)from rfl];simp only[ail];by_cases h:z.f=e.f∧z.t=e.t
  ·simp[h,pz]
  ·simp only[h,anJ,tc,PS,anB,ih];rfl
theorem G8{R:Type}{n:Nat}{g:Nat→Option R}{r:R}(hn:0<n)(h:∀i,i<n→g i=some r):uF n g=some r:=by unfold uF;have hh:∃r,∀i,i<n→g i=some r:=⟨r,h⟩;rw[aqY hh];grind
theorem Wd{n:Nat}(hn:n≤64)(r:PV)(aim:List Ed→Prop)(lZ:∀acc,aim acc→∃D,jg [.int .i64 n,.rs 3 (acc.map Ed.pv)]=some (.aV [.rs 1 D,.int .i64 0])∧r=.rs 1 D):∀(rem acc:List Ed)(N:Nat),rem.length<N→acc.length+rem.length≤4096→(∀l,(∀y,y∈l↔y∈acc∨y∈rem)→l.length=acc.length+rem.length→aim l)→bX (eM bd) N ((n:Int),acc.map Ed.pv,rem.map pz,())=some r:=by
 intro rem;generalize hk:rem.length=k;induction k generalizing rem with
 |zero=>intro acc N hN hl hg;have:rem=[]:=anF hk;subst this;obtain⟨N,rfl⟩:∃m,N=m+1:=⟨N-1,by omega⟩;simp only[bX];unfold eM;dsimp only;rw[BY (show(List.map pz []).isEmpty=true from rfl)];obtain⟨D,h1,h2⟩:=lZ acc (hg acc (fun y=>by simp) (by simp));have e2:cz 2 (.aV [.rs 1 D,.int .i64 0])=some [.rs 1 D,.int .i64 0]:=rfl;simp_all[ak,U,aki,amr,Ja]
 |succ k ih=>
  intro acc N hN hl hg;obtain⟨N,rfl⟩:∃m,N=m+1:=⟨N-1,by omega⟩;simp only[bX];generalize Oi:bX (eM bd) N=rec;unfold eM;dsimp only
  have cy:¬(rem.map pz).isEmpty=true:=by cases rem with
   |nil=>simp at hk
   |cons _ _=>simp
  rw[IT cy];refine G8 (by simp;omega) fun i hi=>?_;have oa:i<rem.length:=by simpa using hi
  obtain⟨e,he⟩:∃e,rem[i]?=some e:=⟨_,ta oa⟩;have G2:(rem.map pz)[i]?=some (pz e):=by simp_all
  have cr:(acc.map Ed.pv++[PV.agg [.int .i64 e.f,.int .i64 e.t,.int .i64 e.c]]).length*24≤aa∧0<24:=by grind [List.length_append,List.length_map,List.length_cons,List.length_nil,aa]
  have F8:acc.map Ed.pv++[PV.agg [.int .i64 e.f,.int .i64 e.t,.int .i64 e.c]]=(acc++[e]).map Ed.pv:=by simp[Ed.pv]
  have af4:(rem.map pz).eraseIdx i=(rem.eraseIdx i).map pz:=by apply anX;grind
  have hle:(rem.eraseIdx i).length=k:=by grind
  rw[G2,U];rw[F8]at cr;simp only[pz,ag3,aid,af2,Ja,U,F8,BY cr,af4];rw[←Oi];refine ih (rem.eraseIdx i) hle (acc++[e]) N (by omega) (by simp;omega) fun l Oh WN=>hg l (fun y=>?_) (by rw[WN];simp;omega);rw[Oh];have bu:y∈rem↔y=e∨y∈rem.eraseIdx i:=by
   rw[List.mem_eraseIdx_iff_getElem?];constructor
   ·grind [List.getElem?_of_mem,Option.some.inj]
   grind
  grind
theorem Mz.leq{E E':List Ed}(h:∀e∈E,∃e'∈E',e'.f=e.f∧e'.t=e.t∧e'.c≤e.c){s v L:Nat}(hr:Mz E s v L):∃L',L'≤L∧Mz E' s v L':=by
 rcases hr with⟨h1,h2⟩|hr
 ·exact⟨L,anz _,.inl ⟨h1,h2⟩⟩
 ·obtain⟨L',l1,l2⟩:=hr.leq (w':=ew E') fun i j c hc=>by
   obtain⟨e',m,e1,e2,e3⟩:=h _ hc;refine⟨e'.c,e3,?_⟩;unfold ew;have:(⟨i,j,e'.c⟩:Ed)=e':=by have e1:e'.f=i:=e1;have e2:e'.t=j:=e2;rw[←e1,←e2]
   rw[this];omega
  exact⟨L',l1,.inr l2⟩
theorem ZI{fr:Bool}{l:List Fp}{M s v:Nat}{d:Int}(h:RN (lK fr l) M s v d):RN (counted fr l) M s v d:=by
 obtain⟨b1,b2,_⟩:=ME fr l;have low:∀{L},Mz (counted fr l) s v L→∃L',L'≤L∧Mz (lK fr l) s v L':=fun hr=>hr.leq fun e he=>by grind [Pj]
 rcases h with⟨e,h1⟩|⟨L,e,hM,h1,h2⟩
 ·refine .inl ⟨e,fun L hL=>?_⟩;simp_all
 ·refine .inr ⟨L,e,hM,h1.mem b1,fun L' hL=>?_⟩;grind
theorem vb{fr:Bool}{l:List Fp}{e:Ed}(h:e∈counted fr l):∃p∈l,p.ed=e:=by unfold counted at h;grind
theorem We{A:Type}[DecidableEq A]:∀(a b:List A),a.Nodup→(∀x∈a,x∈b)→a.length≤b.length:=by
 intro a;induction a with
 |nil=>simp
 |cons x a ih=>
  intro b hn hs;rw[aoU]at hn;have hx:x∈b:=hs x (by simp);have:=ih (b.erase x) hn.2 fun y hy=>by grind
  grind
def TJ(e:Ed):Nat×Nat:=(e.f,e.t)
theorem KL(z:Ed)(k:Nat×Nat):∀m:List Ed,k∈(vP z m).map TJ↔k=TJ z∨k∈m.map TJ
 |[]=>by simp[vP]
 |e::r=>by
  have ih:=KL z k r;simp only[vP];split
  ·rename_i h;have:TJ z=TJ e:=by simp[TJ,h.1,h.2]
   simp only[anB,anA,this];grind
  ·simp only[anB,anA,ih];grind
theorem Iu(z:Ed):∀m:List Ed,(m.map TJ).Nodup→((vP z m).map TJ).Nodup
 |[],_=>by simp[vP]
 |e::r,h=>by
  rw[anB,aoU]at h;simp only[vP];split
  ·rename_i hz;have:TJ z=TJ e:=by simp[TJ,hz.1,hz.2]
   rw[anB,aoU,this];exact h
  ·rename_i hz;rw[anB,aoU,KL];refine⟨fun hk=>hk.elim (fun e'=>hz ?_) h.1,Iu z r h.2⟩;simp only[TJ,T0]at e';exact⟨e'.1.symm,e'.2.symm⟩
theorem RO(fr:Bool)(l:List Fp):((lK fr l).map TJ).Nodup:=by
 rw[←apt l];induction l.reverse with
 |nil=>simp[lK]
 |cons p r ih=>grind [List.reverse_cons,Ez,Pl,Iu]
theorem ZJ{n:Nat}(hn:n≤64)(fr:Bool)(l:List Fp)(h:∀p∈l,p.a<n∧p.b<n):(lK fr l).length≤4096:=by
 have h1:=We ((lK fr l).map TJ) ((List.range n).flatMap fun i=>(List.range n).map fun k=>(i,k)) (RO fr l) fun x hx=>by obtain⟨e,he,rfl⟩:=anG.1 hx;obtain⟨p,hp,rfl⟩:=vb ((ME fr l).1 e he);exact an3.2 ⟨p.a,an0.2 (h p hp).1,anG.2 ⟨p.b,an0.2 (h p hp).2,rfl⟩⟩
 have h2:((List.range n).flatMap fun i=>(List.range n).map fun k=>(i,k)).length=n*n:=by
  have hs:∀m:List Nat,(m.map fun _=>n).sum=m.length*n:=fun m=>by
   induction m with
   |nil=>simp
   |cons a m ih=>grind
  simp_all
 have h3:n*n≤64*64:=apf hn hn;grind
theorem TK(l:List Fp)(n B:Nat)(hn:n≤64)(hl:l.length≤8192)(hB:B≤1073741824)(h:∀p∈l,p.a<n∧p.b<n∧p.c≤B)(fr:Bool):∃D:Nat→Nat→Int,(∀s v,s<n→v<n→RN (counted fr l) (B*n) s v (D s v))∧fk [.rs 4 (l.map Fp.pv),.int .i64 n,.bool fr]=some (.rs 1 (fq n D)):=by
 obtain⟨b1,b2,b3⟩:=ME fr l;have hbe:∀y∈lK fr l,y.f<n∧y.t<n∧y.c≤B:=fun y hy=>by obtain⟨p,hp,rfl⟩:=vb (b1 y hy);exact h p hp
 have b4:=ZJ hn fr l fun p hp=>⟨(h p hp).1,(h p hp).2.1⟩;obtain⟨D,d1,d2⟩:=ZG (lK fr l) n B hn (by omega) hB hbe;refine⟨D,fun s v hs hv=>ZI (d1 s v hs hv),?_⟩;have e0:ak 4 (.rs 4 (l.map Fp.pv))=some (l.map Fp.pv):=by rfl
 simp only[fk,nB,e0,U,Ja,asBool];refine bh (fun k=>((n:Int),fr,l.map Fp.pv,((l.map Fp.pv).length:Int),(k:Int),(lK fr (l.take k)).map pz,())) l.length (fun k hk rec=>?_) (fun rec=>?_) (by unfold rounds;omega) (by rfl)
 ·unfold j8;dsimp only;have hg:decide ((k:Int)<((l.map Fp.pv).length:Int))=true:=by simp;omega
  obtain⟨p,hp⟩:∃p,l[k]?=some p:=⟨_,ta hk⟩;have G2:(l.map Fp.pv)[k]?=some p.pv:=by simp_all
  have htk:l.take (k+1)=l.take k++[p]:=by rw[aqh,hp];rfl
  have hr7:(bif fr then(asBool (cell p.pv 3)).bind fun b6=>some !b6 else some false)=some (fr&& !p.free):=by rw[fp3];cases fr<;>rfl
  obtain⟨g1,g2⟩:=aeJ p.a p.b (lK fr (l.take k));rw[BY hg,af,G2,U,hr7,U,ah (by omega),htk,Ez];unfold Pl;by_cases hf:(fr&& !p.free)=true
  ·simp_all
  ·rw[IT hf,IT hf];simp only[fp0,fp1,fp2,Ja,U,g1,g2];cases hb:Dh p.a p.b (lK fr (l.take k))with
   |none=>simp only[aoY,anM,cond_true,U,IS];rw[show(p.c:Int)=((p.ed.c:Nat):Int)from rfl,show(p.a:Int)=((p.ed.f:Nat):Int)from rfl,show(p.b:Int)=((p.ed.t:Nat):Int)from rfl,af3]
   |some x=>
    simp only[apl,ag0,cond_false,U,anY];by_cases hx:p.c<x
    ·have hd:decide ((p.c:Int)<(x:Int))=true:=by simp;omega
     simp only[hd,IS,BY hx];rw[show(p.c:Int)=((p.ed.c:Nat):Int)from rfl,show(p.a:Int)=((p.ed.f:Nat):Int)from rfl,show(p.b:Int)=((p.ed.t:Nat):Int)from rfl,af3]
    grind
 ·unfold j8;dsimp only;have Oh:((lK fr (l.take l.length)).map pz).length≤maxLen:=by grind [List.take_length,List.length_map,maxLen,decide]
  have cr:(0:Int)≤0∧0≤((((lK fr (l.take l.length)).map pz).length:Nat):Int)∧((((lK fr (l.take l.length)).map pz).length:Nat):Int).toNat*24≤aa∧0<24∧0<3:=by grind [Int.toNat_natCast,List.take_length,List.length_map,aa]
  rw[IT (by simp),BY Oh,BY cr,aoe,lv];have hp:=Wd hn (.rs 1 (fq n D)) (fun acc=>(∀y,y∈lK fr l↔y∈acc)∧acc.length≤4096) (fun acc⟨h1,h2⟩=>⟨_,ZH (lK fr l) acc n B hn h2 hB hbe h1 d1,rfl⟩) (lK fr l) [] rounds (by unfold rounds;omega) (by simp;omega) (fun l' h1 h2=>⟨fun y=>by rw[h1];simp,by rw[h2];simp;omega⟩);exact hp
abbrev Mx:=Nat→Nat→Nat
def MF(d:Mx)(i j x:Nat):Mx:=fun a b=>if a=i∧b=j then x else d a b
def dj(k i:Nat)(d:Mx):Nat→Mx
 |0=>d
 |j+1=>MF (dj k i d j) i j (min (dj k i d j i j) (dj k i d j i k+dj k i d j k j))
def di(n k:Nat)(d:Mx):Nat→Mx
 |0=>d
 |i+1=>dj k i (di n k d i) n
def dk(n:Nat)(d:Mx):Nat→Mx
 |0=>d
 |k+1=>di n k (dk n d k) n
structure Ei(w:Nat→Nat→Nat→Prop)(inf n k i j:Nat)(d:Mx):Prop where
 fw:Fw w inf n d
 lu:∀a b,a<n→b<n→tY w k a b (d a b)
 new:∀a b,a<n→b<n→(a<i∨(a=i∧b<j))→tY w (k+1) a b (d a b)
variable {w:Nat→Nat→Nat→Prop} {inf n:Nat}
theorem tY.le{k i j x y:Nat}(h:tY w k i j x)(hy:y≤x):tY w k i j y:=fun L hL=>anW hy (h L hL)
theorem Ei.cell{k i j:Nat}{d:Mx}(h:Ei w inf n k i j d)(hi:i<n)(hj:j<n)(hk:k<n):Ei w inf n k i (j+1) (MF d i j (min (d i j) (d i k+d k j))):=by
 obtain⟨h1,h2,h3⟩:=adu h.fw hi hj hk (x:=min (d i j) (d i k+d k j)) rfl (d':=MF d i j (min (d i j) (d i k+d k j))) (fun a b=>rfl);refine⟨h1,fun a b ha hb=>(h.lu a b ha hb).le (h2 a b),fun a b ha hb hd=>?_⟩;by_cases e:a=i∧b=j
 ·obtain⟨rfl,rfl⟩:=e;exact h3 (h.lu _ _ ha hk) (h.lu _ _ hk hb) (h.lu _ _ ha hb)
 ·exact(h.new a b ha hb (by omega)).le (h2 a b)
theorem Ei.row{k i:Nat}{d:Mx}(h:Ei w inf n k i 0 d)(hi:i<n)(hk:k<n):∀j,j≤n→Ei w inf n k i j (dj k i d j)
 |0,_=>h
 |j+1,hj=>(Ei.row h hi hk j (by omega)).cell hi (by omega) hk
theorem Ei.rows{k:Nat}{d:Mx}(h:Ei w inf n k 0 0 d)(hk:k<n):∀i,i≤n→Ei w inf n k i 0 (di n k d i)
 |0,_=>h
 |i+1,hi=>by have:=(Ei.rows h hk i (by omega)).row (by omega) hk n (anz _);exact⟨this.fw,this.lu,fun a b ha hb hd=>this.new a b ha hb (by omega)⟩
structure ZK(w:Nat→Nat→Nat→Prop)(inf n k:Nat)(d:Mx):Prop where
 fw:Fw w inf n d
 low:∀a b,a<n→b<n→tY w k a b (d a b)
theorem ZK.rounds{d:Mx}(h:ZK w inf n 0 d):∀k,k≤n→ZK w inf n k (dk n d k)
 |0,_=>h
 |k+1,hk=>by have ih:=ZK.rounds h k (by omega);have:=Ei.rows (k:=k) ⟨ih.fw,ih.low,fun a b ha hb hd=>by omega⟩ (by omega) n (anz _);exact⟨this.fw,fun a b ha hb=>this.new a b ha hb (.inl ha)⟩
def TL(inf:Nat):Mx:=fun _ _=>inf
def lay(d:Mx)(e:Ed):Mx:=MF d e.f e.t (min (d e.f e.t) e.c)
def start(inf:Nat)(E:List Ed):Mx:=E.foldl lay (TL inf)
theorem Iv(inf:Nat)(E:List Ed)(e:Ed):start inf (E++[e])=lay (start inf E) e:=by simp[start]
theorem ZL(E:List Ed):(∀i j,start inf E i j≤inf)∧(∀i j,start inf E i j<inf→(⟨i,j,start inf E i j⟩:Ed)∈E)∧∀e∈E,start inf E e.f e.t≤e.c:=by
 rw[←apt E];induction E.reverse with
 |nil=>simp[anz,start,TL]
 |cons e l ih=>
  rw[List.reverse_cons,Iv];obtain⟨i1,i2,i3⟩:=ih;have hl:∀a b,lay (start inf l.reverse) e a b=if a=e.f∧b=e.t then min (start inf l.reverse e.f e.t) e.c else start inf l.reverse a b:=fun a b=>rfl;refine⟨fun a b=>?_,fun a b h=>?_,fun z hz=>?_⟩
  ·grind
  ·rw[hl]at h⊢;split
   ·rename_i hk;rw[BY hk]at h;by_cases hm:start inf l.reverse e.f e.t≤e.c
    ·simp_all
    ·rw[show min (start inf l.reverse e.f e.t) e.c=e.c by omega,hk.1,hk.2];simp
   simp_all
  grind
theorem B4(E:List Ed):ZK (ew E) inf n 0 (start inf E):=by obtain⟨h1,h2,h3⟩:=ZL (inf:=inf) E;exact⟨⟨fun i j _ _=>h1 i j,fun i j _ _ h=>.ze (h2 i j h)⟩,fun a b _ _ L hL=>h3 ⟨a,b,L⟩ hL⟩
theorem adA{E:List Ed}{M:Nat}(hE:∀y∈E,y.f<n∧y.t<n)(hM:M<inf){i j:Nat}(hi:i<n)(hj:j<n)(XC:i≠j){D:Int}(hD:RN E M i j D):(D= -1∧dk n (start inf E) n i j=inf)∨(D=(dk n (start inf E) n i j:Int)∧dk n (start inf E) n i j≤M):=by
 have hd:=(B4 (n:=n) (inf:=inf) E).rounds n (anz _);have rch:∀L,Mz E i j L↔iY (ew E) i j L:=fun L=>⟨fun h=>by rcases h with⟨h,_⟩|h;exact absurd h.symm XC;omega,.inr⟩;have hs:=adw (w:=ew E) (fun a b c h=>(hE _ h).1) hd.fw hi hj (hd.low i j hi hj) (fun L ahn hw=>by
  rcases hD with⟨_,h⟩|⟨L',_,hle,h1,h2⟩
  ·simp_all
  grind)
 rcases hD with⟨e,h⟩|⟨L',e,hle,h1,h2⟩
 ·left;refine⟨e,?_⟩;have anp:=hd.fw.top i j hi hj;by_cases bK:dk n (start inf E) n i j<inf
  ·exact absurd ((rch _).2 (hd.fw.real i j hi hj bK)) (h _)
  omega
 ·right;have:(if dk n (start inf E) n i j<inf then some (dk n (start inf E) n i j)else none)=some L':=hs.unique ⟨(rch L').1 h1,fun L'' hw=>h2 L'' ((rch L'').2 hw)⟩;simp_all
def Di(n:Nat)(r:Nat→Nat):List PV:=(List.range n).map fun j=>.int .i64 (r j)
def rR(n:Nat)(d:Mx):List PV:=(List.range n).map fun i=>.jr 1 (Di n (d i))
theorem zM(n:Nat)(d:Mx):(rR n d).length=n:=by simp[rR]
theorem wR(n:Nat)(r:Nat→Nat):(Di n r).length=n:=by simp[Di]
theorem wS{n i:Nat}(d:Mx)(h:i<n):(rR n d)[i]?=some (.jr 1 (Di n (d i))):=by simp[rR,h]
theorem zN{n j:Nat}(r:Nat→Nat)(h:j<n):(Di n r)[j]?=some (.int .i64 (r j)):=by simp[Di,h]
theorem Pm{n i j:Nat}(d:Mx)(x:Nat)(hi:i<n)(hj:j<n):(rR n d).set i (.jr 1 ((Di n (d i)).set j (.int .i64 x)))=rR n (MF d i j x):=by
 apply anX;intro a;rw[aod];by_cases e:i=a
 ·subst e;rw[BY rfl,BY (by rw[zM];omega),wS _ hi];congr 2;apply anX;intro b;rw[aod];by_cases e:j=b
  ·subst e;rw[BY rfl,BY (by rw[wR];omega),zN _ hj];simp[MF]
  ·rw[IT e];by_cases hb:b<n
   ·simp_all[zN,MF,Ne.symm]
   simp_all[aoE,wR]
 ·rw[IT e];by_cases ha:a<n
  ·rw[wS _ ha,wS _ ha];simp_all[congr,Di,an2,MF,Ne.symm]
  simp_all[aoE,zM]
theorem asR(es:List PV):bW 1 (cell (.jr 1 es) 0)=some es:=rfl
theorem cI(x:Int):cell (.int .i64 x) 0=.int .i64 x:=rfl
theorem ain(e p:PV):setRow 1 e 0 p=p:=rfl
theorem aio(q p:PV):setCells 1 q 0 1 p=p:=rfl
theorem adB(a b:Nat)(hb:b≤4398046511104):(if IntKind.i64.wrap (b:Int)<(a:Int)then IntKind.i64.wrap (b:Int)else(a:Int))=((min a b:Nat):Int):=by grind [bp]
theorem af5(Bm:Int×Int×Int×List PV×Unit→Option PV)(n k i:Nat)(d:Mx)(hn:n≤64)(hk:k<n)(hi:i<n)(hd:∀j,j≤n→∀a b,a<n→b<n→dj k i d j a b≤1099511627776):bd.run (kB Bm) ((n:Int),(k:Int),(i:Int),0,rR n d,())=Bm ((n:Int),(k:Int),IntKind.i64.wrap ((i:Int)+1),rR n (dj k i d n),()):=by
 refine bh (fun j=>((n:Int),(k:Int),(i:Int),(j:Int),rR n (dj k i d j),())) n (fun j hj rec=>?_) (fun rec=>?_) (by unfold rounds;omega) rfl
 ·unfold kB;dsimp only;have hg:decide ((j:Int)<(n:Int))=true:=by simp;omega
  have ii:aC (i:Int) (rR n (dj k i d j)).length:=Gg (by rw[zM];omega);have ik:aC (k:Int) (rR n (dj k i d j)).length:=Gg (by rw[zM];omega);have ji:aC (j:Int) (Di n (dj k i d j i)).length:=Gg (by rw[wR];omega);have ki:aC (k:Int) (Di n (dj k i d j i)).length:=Gg (by rw[wR];omega);have jk:aC (j:Int) (Di n (dj k i d j k)).length:=Gg (by rw[wR];omega);have b1:=hd j (by omega) i k hi hk;have b2:=hd j (by omega) k j hk hj;have hs:(((dj k i d j i k:Nat):Int)+((dj k i d j k j:Nat):Int))=((dj k i d j i k+dj k i d j k j:Nat):Int):=by omega
  simp only[hg,IS,BY ii,BY ik,agY,wS _ hi,wS _ hk,U,asR,BY ji,BY ki,BY jk,zN _ hj,zN _ hk,cI,Ja,ain,aio,hs,adB _ _ (show dj k i d j i k+dj k i d j k j≤4398046511104 by omega),Pm _ _ hi hj,ah (show j<9223372036854775807 by omega)];rfl
 simp[kB,IT]
theorem af6(TM:Int×Int×List PV×Unit→Option PV)(n k:Nat)(d:Mx)(hn:n≤64)(hk:k<n)(hd:∀i,i<n→∀j,j≤n→∀a b,a<n→b<n→dj k i (di n k d i) j a b≤1099511627776):bd.run (kC bd TM) ((n:Int),(k:Int),0,rR n d,())=TM ((n:Int),IntKind.i64.wrap ((k:Int)+1),rR n (di n k d n),()):=by
 refine bh (fun i=>((n:Int),(k:Int),(i:Int),rR n (di n k d i),())) n (fun i hi rec=>?_) (fun rec=>?_) (by unfold rounds;omega) rfl
 ·unfold kC;dsimp only;have hg:decide ((i:Int)<(n:Int))=true:=by simp;omega
  rw[BY hg,af5 rec n k i _ hn hk hi (hd i hi),ah (by omega)];rfl
 simp[kC,IT]
theorem af7(n:Nat)(d:Mx)(hn:n≤64)(hd:∀k,k<n→∀i,i<n→∀j,j≤n→∀a b,a<n→b<n→dj k i (di n k (dk n d k) i) j a b≤1099511627776):bd.run (kD bd) ((n:Int),0,rR n d,())=some (.rs 1 ((rR n (dk n d n)).map PV.strip)):=by
 refine bh (fun k=>((n:Int),(k:Int),rR n (dk n d k),())) n (fun k hk rec=>?_) (fun rec=>?_) (by unfold rounds;omega) rfl
 ·unfold kD;dsimp only;have hg:decide ((k:Int)<(n:Int))=true:=by simp;omega
  rw[BY hg,af6 rec n k _ hn hk (hd k hk),ah (by omega)];rfl
 simp[kD,IT]
abbrev rA:Nat:=1099511627776
theorem Wf(n:Nat):List.replicate n (PV.jr 1 (List.replicate n (PV.int .i64 1099511627776)))=rR n (TL rA):=by
 unfold rR Di TL;apply anX;intro i;by_cases hi:i<n
 ·have:(List.range n).map (fun j=>PV.int .i64 ((rA:Nat):Int))=List.replicate n (PV.int .i64 1099511627776):=by apply anX;grind
  simp_all
 simp_all
theorem Wg(n:Nat)(d:Mx):(rR n d).map PV.strip=fq n fun i j=>((d i j:Nat):Int):=by unfold rR fq Di yy;rw[ao8];rfl
theorem ZM(a b:Nat):(if(b:Int)<(a:Int)then(b:Int)else(a:Int))=((min a b:Nat):Int):=by omega
theorem MG(fr:Bool)(l:List Fp)(p:Fp):counted fr (l++[p])=if(fr&& !p.free)=true then counted fr l else counted fr l++[p.ed]:=by unfold counted;grind
theorem Dj(l:List Fp)(n:Nat)(hn:n≤64)(hl:l.length≤8192)(h:∀p∈l,p.a<n∧p.b<n)(fr:Bool):jh [.rs 4 (l.map Fp.pv),.int .i64 n,.bool fr]=some (.rs 1 (fq n fun i j=>((dk n (start rA (counted fr l)) n i j:Nat):Int))):=by
 have e0:ak 4 (.rs 4 (l.map Fp.pv))=some (l.map Fp.pv):=by rfl
 have hE:∀y∈counted fr l,y.f<n∧y.t<n:=fun y hy=>by obtain⟨p,hp,rfl⟩:=vb hy;exact h p hp
 simp only[jh,ub,e0,U,Ja,asBool];refine bh (fun i=>(l.map Fp.pv,(n:Int),fr,(i:Int),List.replicate i (PV.jr 1 (List.replicate n (PV.int .i64 1099511627776))),())) n (fun i hi rec=>?_) (fun rec=>?_) (by unfold rounds;omega) rfl
 ·unfold pA;dsimp only;have hg:decide ((i:Int)<(n:Int))=true:=by simp;omega
  rw[BY hg];refine bh (fun j=>(l.map Fp.pv,(n:Int),fr,(i:Int),(j:Int),List.replicate i (PV.jr 1 (List.replicate n (PV.int .i64 1099511627776))),List.replicate j (PV.int .i64 1099511627776),())) n (fun j hj rM=>?_) (fun rM=>?_) (by unfold rounds;omega) rfl
  ·unfold pB;dsimp only;have hg:decide ((j:Int)<(n:Int))=true:=by simp;omega
   have F8:List.replicate j (PV.int .i64 1099511627776)++[PV.int .i64 1099511627776]=List.replicate (j+1) (PV.int .i64 1099511627776):=(aqG ..).symm;rw[BY hg];simp only[F8,aoc];rw[BY (by unfold aa;omega),ah (by omega)]
  ·unfold pB;dsimp only;have F8:List.replicate i (PV.jr 1 (List.replicate n (PV.int .i64 1099511627776)))++[PV.jr 1 (List.replicate n (PV.int .i64 1099511627776))]=List.replicate (i+1) (PV.jr 1 (List.replicate n (PV.int .i64 1099511627776))):=(aqG ..).symm;rw[IT (by simp)];simp only[F8,aoc];rw[BY (by unfold aa;omega),ah (by omega)]
 ·unfold pA;dsimp only;rw[IT (by simp),Wf];refine bh (fun k=>(l.map Fp.pv,(n:Int),fr,(k:Int),rR n (start rA (counted fr (l.take k))),())) l.length (fun k hk rM=>?_) (fun rM=>?_) (by unfold rounds;omega) rfl
  ·unfold pC;dsimp only;have hg:decide ((k:Int)<((l.map Fp.pv).length:Int))=true:=by simp;omega
   obtain⟨p,hp⟩:∃p,l[k]?=some p:=⟨_,ta hk⟩;have G2:(l.map Fp.pv)[k]?=some p.pv:=by simp_all
   have htk:l.take (k+1)=l.take k++[p]:=by rw[aqh,hp];rfl
   obtain⟨pa,pb⟩:=h p (amq hp);have hr:(bif p.free then some true else some !fr)=some (!(fr&& !p.free)):=by grind
   rw[BY hg,af,G2,U,htk,MG];simp only[fp3,asBool,U,hr];cases hb:(fr&& !p.free)with
   |true=>simp only[ag0,tc,PS,IS,ah (show k<9223372036854775807 by omega)]
   |false=>
    obtain⟨d,hd⟩:∃d,d=start rA (counted fr (l.take k)):=⟨_,rfl⟩;have ia:aC (p.a:Int) (rR n d).length:=Gg (by rw[zM];omega);have ib:aC (p.b:Int) (Di n (d p.a)).length:=Gg (by rw[wR];omega);have gw:rR n (start rA (counted fr (l.take k)++[p.ed]))=rR n (MF d p.a p.b (min (d p.a p.b) p.c)):=by rw[Iv,←hd];rfl
    simp only[anM,IS,tc,PS,gw,←hd,fp0,fp1,fp2,Ja,U,BY ia,agY,wS _ pa,asR,BY ib,zN _ pb,cI,ain,aio,ZM,Pm _ _ pa pb,ah (show k<9223372036854775807 by omega)]
  ·unfold pC;dsimp only;rw[IT (by simp),aoe,←Wg];have aip:=B4 (n:=n) (inf:=rA) (counted fr l);exact af7 n _ hn fun k hk i hi j hj a b ha hb=>by have ih:=aip.rounds k (by omega);have:=(Ei.rows (k:=k) ⟨ih.fw,ih.low,fun a b ha hb hd=>by omega⟩ hk i (by omega)).row hi hk j hj;exact this.fw.top a b ha hb
def fpI(i k:Nat)(s:Int)(b:Bool):PV:=.agg [.int .i64 i,.int .i64 k,.int .i64 s,.bool b]
def FY(w f:Int)(i k:Nat):List PV:=if i=k∨w>14400 then[]else fpI i k w (f==w)::(if f>w∧f≤14400 then[fpI i k f true]else[])
def zO(n:Nat)(it:Nat→Nat→List PV)(i:Nat):List PV:=(List.range n).flatMap (it i)
def Ce(n:Nat)(it:Nat→Nat→List PV)(m:Nat):List PV:=(List.range m).flatMap (zO n it)
theorem EA(n:Nat)(it:Nat→Nat→List PV)(i:Nat):zO (n+1) it i=zO n it i++it i n:=by simp[zO,aot,apc]
theorem EB(n:Nat)(it:Nat→Nat→List PV)(m:Nat):Ce n it (m+1)=Ce n it m++zO n it m:=by simp[Ce,aot,apc]
theorem Dk{it:Nat→Nat→List PV}(h:∀i k,(it i k).length≤2)(i:Nat):∀k,(zO k it i).length≤2*k
 |0=>by simp[zO]
 |k+1=>by rw[EA,anD];have:=Dk h i k;have:=h i k;omega
theorem Db{it:Nat→Nat→List PV}(h:∀i k,(it i k).length≤2)(n:Nat):∀m,(Ce n it m).length≤2*n*m
 |0=>by simp[Ce]
 |m+1=>by rw[EB,anD,Nat.mul_succ];have:=Db h n m;have:=Dk h m n;omega
theorem Mp(w f:Int)(i k:Nat):(FY w f i k).length≤2:=by grind [FY]
theorem KM{n k:Nat}(D:Nat→Int)(h:k<n):(yy n D)[k]?=some (.int .i64 (D k)):=by simp[yy,h]
theorem EC{n i:Nat}(D:Nat→Nat→Int)(h:i<n):(fq n D)[i]?=some (.rs 1 (yy n (D i))):=by simp[fq,h]
theorem af8(es:List PV):ak 1 (cell (.rs 1 es) 0)=some es:=by rfl
theorem wZ{a:List PV}(h:a.length≤16384):a.length*32≤aa∧0<32:=by unfold aa;omega
theorem RP(MH:af9→Option PV)(n i:Nat)(W F:Nat→Nat→Int)(hn:n≤64)(hi:i<n)(acc:List PV)(al5:acc.length≤8192):bd.run (mK bd MH) ((n:Int),fq n W,fq n F,(i:Int),0,acc,())=MH ((n:Int),fq n W,fq n F,IntKind.i64.wrap ((i:Int)+1),acc++zO n (fun i k=>FY (W i k) (F i k) i k) i,()):=by
 refine bh (fun k=>((n:Int),fq n W,fq n F,(i:Int),(k:Int),acc++zO k (fun i k=>FY (W i k) (F i k) i k) i,())) n (fun k hk rec=>?_) (fun rec=>?_) (by unfold rounds;omega) (by simp[zO])
 ·unfold mK;dsimp only;have hg:decide ((k:Int)<(n:Int))=true:=by simp;omega
  rw[EA];have hlen:=Dk (it:=fun i k=>FY (W i k) (F i k) i k) (fun i k=>Mp _ _ i k) i k;generalize hA:acc++zO k (fun i k=>FY (W i k) (F i k) i k) i=A;have hAl:A.length≤8192+128:=by grind
  rw[←an1,hA];simp only[hg,IS,af,EC _ hi,U,af8,KM _ hk,cI,Ja,ah (show k<9223372036854775807 by omega)];generalize W i k=w;generalize F i k=f;by_cases I9:i=k
  ·simp_all[FY,BY,cond_true,U,IS,aof]
  ·have hb:((i:Int)==(k:Int))=false:=by grind
   simp only[hb,cond_false,U];by_cases hw:w>14400
   ·simp_all[FY,BY,anR,IS,aof]
   ·have hr1:(A++[PV.agg [.int .i64 i,.int .i64 k,.int .i64 w,.bool (f==w)]]).length*32≤aa∧0<32:=wZ (by simp;omega);simp only[hw,anJ,tc,PS,BY hr1];by_cases hf:f>w
    ·by_cases Vb:f≤14400
     ·have UY:(A++[PV.agg [.int .i64 i,.int .i64 k,.int .i64 w,.bool (f==w)]]++[PV.agg [.int .i64 i,.int .i64 k,.int .i64 f,.bool true]]).length*32≤aa∧0<32:=wZ (by simp;omega);have hit:FY w f i k=[fpI i k w (f==w),fpI i k f true]:=by simp_all[FY,IT,BY]
      simp only[hf,Vb,anR,cond_true,U,IS,BY UY,hit];rw[an1];rfl
     ·have hit:FY w f i k=[fpI i k w (f==w)]:=by simp_all[FY,IT]
      simp only[hf,Vb,anR,anJ,cond_true,U,tc,PS,hit];rfl
    ·have hit:FY w f i k=[fpI i k w (f==w)]:=by unfold FY;grind
     simp only[hf,anJ,cond_false,U,tc,PS,hit];rfl
 simp[mK,IT]
theorem Pn(n:Nat)(W F:Nat→Nat→Int)(hn:n≤64):bd.run (mL bd) ((n:Int),fq n W,fq n F,0,[],())=some (.rs 4 (Ce n (fun i k=>FY (W i k) (F i k) i k) n)):=by
 refine bh (fun i=>((n:Int),fq n W,fq n F,(i:Int),Ce n (fun i k=>FY (W i k) (F i k) i k) i,())) n (fun i hi rec=>?_) (fun rec=>?_) (by unfold rounds;omega) rfl
 ·unfold mL;dsimp only;have hg:decide ((i:Int)<(n:Int))=true:=by simp;omega
  have hlen:=Db (it:=fun i k=>FY (W i k) (F i k) i k) (fun i k=>Mp _ _ i k) n i;have hb:2*n*i≤2*64*64:=apf (by omega) (by omega);rw[BY hg,RP rec n i W F hn hi _ (by omega),EB,ah (by omega)]
 simp[mL,IT]
def fE(n:Nat)(l:List Fp)(fr:Bool)(i j:Nat):Int:=((dk n (start rA (counted fr l)) n i j:Nat):Int)
theorem RQ(l:List Fp)(n:Nat)(hn:n≤64)(hl:l.length≤8192)(h:∀p∈l,p.a<n∧p.b<n):jc [.rs 4 (l.map Fp.pv),.int .i64 n]=some (.rs 4 (Ce n (fun i k=>FY (fE n l false i k) (fE n l true i k) i k) n)):=by
 have e0:ak 4 (.rs 4 (l.map Fp.pv))=some (l.map Fp.pv):=by rfl
 have e1:∀es,ak 1 (.rs 1 es)=some es:=fun es=>by rfl
 simp only[jc,xQ,e0,U,Ja,Dj l n hn hl h false,Dj l n hn hl h true,e1];simp_all[Pn,fE]
def Ql(w f:Int)(i k:Nat):List PV:=if i=k then[]else(if 0<w∧w≤14400 then[fpI i k w (f==w)]else[])++(if f≠w∧0<f∧f≤14400 then[fpI i k f true]else[])
theorem iY.pos{w:Nat→Nat→Nat→Prop}(h:∀i j c,w i j c→1≤c){i j L:Nat}(hw:iY w i j L):1≤L:=by
 cases hw with
 |ze e=>exact h _ _ _ e
 |snoc _ e=>have:=h _ _ _ e;omega
def uc(M:Nat)(d w:Int):Prop:=(d= -1∧w=(rA:Int))∨(d=w∧1≤w∧w≤M)
theorem aiq{M:Nat}(hM:M<rA){d0 d1 w f:Int}(h0:uc M d0 w)(h1:uc M d1 f)(UF:d1≠-1→d0≠-1∧d0≤d1)(i k:Nat):Ql d0 d1 i k=FY w f i k:=by
 unfold Ql FY;by_cases I9:i=k
 ·simp_all
 ·rw[IT I9];have hM:(M:Int)<1099511627776:=by grind
  have ah0:((rA:Nat):Int)=1099511627776:=rfl;rw[uc,ah0]at h0 h1;rcases h0 with⟨e0,w0⟩|⟨e0,w1,w2⟩
  ·simp_all
  ·subst e0;rcases h1 with⟨e1,f0⟩|⟨e1,f1,f2⟩
   ·by_cases hw:d0≤14400
    ·have b1:(d1==d0)=false:=by grind
     have b2:(f==d0)=false:=by grind
     grind
    simp_all
   grind
theorem adC{l:List Fp}{n B:Nat}(hn:n≤64)(hB:B≤1073741824)(h:∀p∈l,p.a<n∧p.b<n∧1≤p.c∧p.c≤B)(fr:Bool){i k:Nat}(hi:i<n)(hk:k<n)(I9:i≠k){d:Int}(hd:RN (counted fr l) (B*n) i k d):uc (B*n) d (fE n l fr i k):=by
 have hE:∀y∈counted fr l,y.f<n∧y.t<n∧1≤y.c:=fun y hy=>by obtain⟨p,hp,rfl⟩:=vb hy;obtain⟨a,b,c,_⟩:=h p hp;exact⟨a,b,c⟩
 have hM:B*n<rA:=by have:B*n≤1073741824*64:=apf hB hn;grind
 rcases adA (inf:=rA) (fun y hy=>⟨(hE y hy).1,(hE y hy).2.1⟩) hM hi hk I9 hd with⟨e1,e2⟩|⟨e1,e2⟩
 ·exact .inl ⟨e1,by unfold fE;omega⟩
 ·refine .inr ⟨e1,?_,by unfold fE;omega⟩;rcases hd with⟨e,_⟩|⟨L,e,_,hr,_⟩
  ·omega
  ·have:1≤L:=by
    rcases hr with⟨h,_⟩|hw
    ·omega
    ·exact hw.pos fun a b c hc=>(hE _ hc).2.2
   unfold fE;omega
theorem adD{l:List Fp}{M i k:Nat}{d0 d1:Int}(h0:RN (counted false l) M i k d0)(h1:RN (counted true l) M i k d1)(cy:d1≠-1):d0≠-1∧d0≤d1:=by
 have sub:∀y,y∈counted true l→y∈counted false l:=fun y hy=>by unfold counted at hy⊢;grind
 rcases h1 with⟨e,_⟩|⟨L1,e1,_,r1,_⟩
 ·omega
 ·have r:=r1.mem sub;rcases h0 with⟨_,h⟩|⟨L0,e0,_,_,m0⟩
  ·exact absurd r (h L1)
  simp_all
theorem TN(w f:Int)(i k:Nat):(Ql w f i k).length≤2:=by grind [Ql,List.length_append]
theorem Wh(MH:TY8→Option PV)(n i:Nat)(W F:Nat→Nat→Int)(hn:n≤64)(hi:i<n)(acc:List PV)(al5:acc.length≤8192):bd.run (iC bd MH) (fq n W,fq n F,(i:Int),(n:Int),(i:Int),yy n (W i),(n:Int),0,acc,())=MH (fq n W,fq n F,(n:Int),IntKind.i64.wrap ((i:Int)+1),acc++zO n (fun i k=>Ql (W i k) (F i k) i k) i,()):=by
 refine bh (fun k=>(fq n W,fq n F,(i:Int),(n:Int),(i:Int),yy n (W i),(n:Int),(k:Int),acc++zO k (fun i k=>Ql (W i k) (F i k) i k) i,())) n (fun k hk rec=>?_) (fun rec=>?_) (by unfold rounds;omega) (by simp[zO])
 ·unfold iC;dsimp only;have hg:decide ((k:Int)<(n:Int))=true:=by simp;omega
  rw[EA];have hlen:=Dk (it:=fun i k=>Ql (W i k) (F i k) i k) (fun i k=>TN _ _ i k) i k;generalize hA:acc++zO k (fun i k=>Ql (W i k) (F i k) i k) i=A;have hAl:A.length≤8192+128:=by grind
  rw[←an1,hA];simp only[hg,IS,af,KM _ hk,EC _ hi,U,af8,cI,Ja,ah (show k<9223372036854775807 by omega)];generalize W i k=w;generalize F i k=f;by_cases I9:i=k
  ·simp_all[Ql,BY,IS,aof]
  ·have hb:((i:Int)==(k:Int))=false:=by grind
   have hand:∀x:Int,(bif decide (x>0)then some (decide (x≤14400))else some false)=some (decide (0<x∧x≤14400)):=fun x=>by grind
   have hr1:(A++[PV.agg [.int .i64 i,.int .i64 k,.int .i64 w,.bool (f==w)]]).length*32≤aa∧0<32:=wZ (by simp;omega);have UY:(A++[PV.agg [.int .i64 i,.int .i64 k,.int .i64 w,.bool (f==w)]]++[PV.agg [.int .i64 i,.int .i64 k,.int .i64 f,.bool true]]).length*32≤aa∧0<32:=wZ (by simp;omega);have hr3:(A++[PV.agg [.int .i64 i,.int .i64 k,.int .i64 f,.bool true]]).length*32≤aa∧0<32:=wZ (by simp;omega);have cy:(f !=w)=decide (f≠w):=by grind
   have hit:Ql w f i k=(if 0<w∧w≤14400 then[fpI i k w (f==w)]else[])++(if f≠w∧0<f∧f≤14400 then[fpI i k f true]else[]):=IT I9;simp only[hb,tc,PS,hand,U,cy,te,hit,BY hr1,BY UY,BY hr3];by_cases h1:0<w∧w≤14400
   ·by_cases h2:f≠w
    ·by_cases h3:0<f∧f≤14400
     ·rw[BY h1,BY h2,BY h3,BY h1,BY ⟨h2,h3⟩,an1];rfl
     ·rw[BY h1,BY h2,IT h3,BY h1,IT (fun h=>h3 h.2)];rfl
    ·rw[BY h1,IT h2,BY h1,IT (fun h=>h2 h.1)];rfl
   ·by_cases h2:f≠w
    ·by_cases h3:0<f∧f≤14400
     ·rw[IT h1,BY h2,BY h3,IT h1,BY ⟨h2,h3⟩];rfl
     grind
    grind
 simp[iC,IT]
theorem RR(n:Nat)(W F:Nat→Nat→Int)(hn:n≤64){es':List PV}(hs:zh 4 (fun c a b=>cD [a,b]) (Ce n (fun i k=>Ql (W i k) (F i k) i k) n)=some es'):bd.run (iD bd) (fq n W,fq n F,(n:Int),0,[],())=some (.rs 4 es'):=by
 have hlen:∀i,i≤n→(Ce n (fun i k=>Ql (W i k) (F i k) i k) i).length≤8192:=fun i hi=>by have h1:=Db (it:=fun i k=>Ql (W i k) (F i k) i k) (fun i k=>TN _ _ i k) n i;have hb:2*n*i≤2*64*64:=apf (by omega) (by omega);omega
 refine bh (fun i=>(fq n W,fq n F,(n:Int),(i:Int),Ce n (fun i k=>Ql (W i k) (F i k) i k) i,())) n (fun i hi rec=>?_) (fun rec=>?_) (by unfold rounds;omega) rfl
 ·unfold iD;dsimp only;have hg:decide ((i:Int)<(n:Int))=true:=by simp;omega
  have Od:((yy n (W i)).length:Int)=(n:Int):=by simp[yy]
  rw[BY hg,af,EC _ hi,U,af8,U,Od,Wh rec n i W F hn hi _ (hlen i (by omega)),EB,ah (by omega)]
 ·unfold iD;dsimp only;have h:=hlen n (anz _);rw[IT (by simp),BY (by(first|refine⟨rfl,?_,rfl⟩|refine⟨rfl,?_⟩);unfold aa;omega),hs];rfl
def kI:PV→Int
 |.int _ n=>n
 |_=>0
def c3(x y:Int):Int:=if x<y then-1 else if x>y then 1 else 0
def or3(a b c:Int):Int:=if a≠0 then a else if b≠0 then b else c
def cfp(a b:List PV):Int:=or3 (c3 (kI (a.getD 0 .bad)) (kI (b.getD 0 .bad))) (c3 (kI (a.getD 1 .bad)) (kI (b.getD 1 .bad))) (c3 (kI (a.getD 2 .bad)) (kI (b.getD 2 .bad)))
theorem RS(x y:Int):fv [.int .i64 x,.int .i64 y]=some (.int .i64 (c3 x y)):=by
 have h:∀z:Int,¬(z !=z)=true:=fun z=>by simp
 simp only[fv,rS,Ja,U,IT (h x),IT (h y),te];unfold c3;grind
theorem air(a b c:Int):sF [.rs 1 [.int .i64 a,.int .i64 b,.int .i64 c]]=some (.int .i64 (or3 a b c)):=by
 have e0:ak 1 (.rs 1 [.int .i64 a,.int .i64 b,.int .i64 c])=some [.int .i64 a,.int .i64 b,.int .i64 c]:=by rfl
 simp only[sF,Cf,e0,U];obtain⟨es,Nf⟩:∃es,es=[PV.int .i64 a,.int .i64 b,.int .i64 c]:=⟨_,rfl⟩;have hl:((es.length:Nat):Int)=3:=by rw[Nf];rfl
 rw[←Nf];have hb:∀(k:Nat)(x:Int),es[k]?=some (.int .i64 x)→k<3→∀rec,eZ (0,es,((es.length:Nat):Int),(k:Int),()) rec=if x≠0 then some (.int .i64 x)else rec (0,es,((es.length:Nat):Int),((k+1:Nat):Int),()):=fun k x hx hk rec=>by
  unfold eZ;dsimp only;have hg:decide ((k:Int)<((es.length:Nat):Int))=true:=by rw[hl];simp;omega
  rw[BY hg,af,hx,U,cI,Ja,U,ah (by omega)];simp
 have he:∀rec,eZ (0,es,((es.length:Nat):Int),((3:Nat):Int),()) rec=some (.int .i64 0):=fun rec=>by unfold eZ;simp_all
 have hN:rounds=18446744073709551612+1+1+1+1:=rfl;rw[lv,hN];generalize 18446744073709551612=N;show eZ (0,es,((es.length:Nat):Int),((0:Nat):Int),()) _=_;rw[hb 0 a (by rw[Nf];rfl) (by omega)];unfold or3;by_cases h1:a≠0
 ·simp_all
 ·rw[IT h1,IT h1];show eZ (0,es,((es.length:Nat):Int),((1:Nat):Int),()) _=_;rw[hb 1 b (by rw[Nf];rfl) (by omega)];by_cases h2:b≠0
  ·simp_all
  ·rw[IT h2,IT h2];show eZ (0,es,((es.length:Nat):Int),((2:Nat):Int),()) _=_;rw[hb 2 c (by rw[Nf];rfl) (by omega)];by_cases h3:c≠0
   ·rw[BY h3]
   ·rw[IT h3];show eZ (0,es,((es.length:Nat):Int),((3:Nat):Int),()) _=_;simp_all
def Mh(i k:Nat)(s:Int)(b:Bool):List PV:=[.int .i64 i,.int .i64 k,.int .i64 s,.bool b]
theorem ZN(i k:Nat)(s:Int)(b:Bool)(i' k':Nat)(s':Int)(b':Bool):cD [AU (Mh i k s b),AU (Mh i' k' s' b')]=some (.int .i64 (cfp (Mh i k s b) (Mh i' k' s' b'))):=by have a:∀(w x y z:PV),asAgg 4 (.agg [w,x,y,z])=some ():=fun _ _ _ _=>rfl;have a0:∀(w x y z:PV),cell (.agg [w,x,y,z]) 0=w:=fun _ _ _ _=>rfl;have a1:∀(w x y z:PV),cell (.agg [w,x,y,z]) 1=x:=fun _ _ _ _=>rfl;have a2:∀(w x y z:PV),cell (.agg [w,x,y,z]) 2=y:=fun _ _ _ _=>rfl;have a3:∀(w x y z:PV),cell (.agg [w,x,y,z]) 3=z:=fun _ _ _ _=>rfl;simp only[cD,nC,AU,Mh,a,a0,a1,a2,a3,Ja,asBool,U,RS,air];rfl
theorem ZO(x y:Int):(c3 x y<0↔x<y)∧(c3 x y=0↔x=y):=by grind [c3]
theorem ED(i k:Nat)(s:Int)(b:Bool)(i' k':Nat)(s':Int)(b':Bool):cfp (Mh i k s b) (Mh i' k' s' b')<0↔i<i'∨(i=i'∧(k<k'∨(k=k'∧s<s'))):=by show or3 (c3 (i:Int) (i':Int)) (c3 (k:Int) (k':Int)) (c3 s s')<0↔_;have h1:=ZO (i:Int) (i':Int);grind [ZO,or3]
def IsF(e:List PV):Prop:=∃i k s b,e=Mh i k s b
variable{ns:List (List PV)}
theorem RT(h:ns.Pairwise fun a b=>cfp a b<0):∀a∈ns,∀b∈ns,¬cfp a b<0→¬cfp b a<0→a=b:=by
 induction h with
 |nil=>simp
 | @cons x l hx _ ih=>grind
theorem Po(hF:∀e∈ns,IsF e)(h:ns.Pairwise fun a b=>cfp a b<0):lD 4 (fun c a b=>cD [a,b]) ns ns cfp where
 len a ha:=by obtain⟨i,k,s,b,rfl⟩:=hF a ha;rfl
 UP a ha p hp:=by obtain⟨i,k,s,b,rfl⟩:=hF a ha;simp only[Mh,anA,aqq,or_false]at hp;rcases hp with rfl|rfl|rfl|rfl<;>rfl
 perm:=List.Perm.refl _
 reads c _ _ a ha b hb:=by obtain⟨i,k,s,q,rfl⟩:=hF a ha;obtain⟨i',k',s',q',rfl⟩:=hF b hb;exact ZN ..
 irrefl a ha:=by obtain⟨i,k,s,q,rfl⟩:=hF a ha;rw[ED];omega
 trans a ha b hb c hc h1 h2:=by obtain⟨i,k,s,q,rfl⟩:=hF a ha;obtain⟨i',k',s',q',rfl⟩:=hF b hb;obtain⟨i2,k2,s2,q2,rfl⟩:=hF c hc;rw[ED]at*;omega
 total:=RT h
 sorted:=h.imp_of_mem fun{a b}ha hb tt=>by obtain⟨i,k,s,q,rfl⟩:=hF a ha;obtain⟨i',k',s',q',rfl⟩:=hF b hb;rw[ED]at*;omega
def ON(w f:Int)(i k:Nat):List (List PV):=if i=k∨w>14400 then[]else Mh i k w (f==w)::(if f>w∧f≤14400 then[Mh i k f true]else[])
theorem adE(w f:Int)(i k:Nat):(ON w f i k).map AU=FY w f i k:=by
 unfold ON FY;split
 ·rfl
 ·split<;>rfl
def yF(n:Nat)(W F:Nat→Nat→Int):List (List PV):=(List.range n).flatMap fun i=>(List.range n).flatMap fun k=>ON (W i k) (F i k) i k
theorem Es(n:Nat)(W F:Nat→Nat→Int):fg (yF n W F)=Ce n (fun i k=>FY (W i k) (F i k) i k) n:=by unfold fg yF Ce zO;rw[List.map_flatMap];congr 1;funext i;rw[List.map_flatMap];congr 1;funext k;exact adE ..
theorem Ax{w f:Int}{i k:Nat}{e:List PV}(h:e∈ON w f i k):∃s b,e=Mh i k s b:=by unfold ON at h;grind
theorem O3(n:Nat)(W F:Nat→Nat→Int):∀e∈yF n W F,IsF e:=fun e h=>by obtain⟨i,_,h⟩:=an3.1 h;obtain⟨k,_,h⟩:=an3.1 h;obtain⟨s,b,rfl⟩:=Ax h;exact⟨i,k,s,b,rfl⟩
theorem Pp(n:Nat)(W F:Nat→Nat→Int):(yF n W F).Pairwise fun a b=>cfp a b<0:=by
 unfold yF;rw[aoD];refine⟨fun i _=>?_,List.pairwise_lt_range.imp fun{i i'}UG x hx y hy=>?_⟩
 ·rw[aoD];refine⟨fun k _=>?_,List.pairwise_lt_range.imp fun{k k'}yJ x hx y hy=>?_⟩
  ·unfold ON;split
   ·simp
   grind [ED]
  ·obtain⟨s,b,rfl⟩:=Ax hx;obtain⟨s',b',rfl⟩:=Ax hy;rw[ED];omega
 ·obtain⟨k,_,hx⟩:=an3.1 hx;obtain⟨k',_,hy⟩:=an3.1 hy;obtain⟨s,b,rfl⟩:=Ax hx;obtain⟨s',b',rfl⟩:=Ax hy;rw[ED];omega
theorem Rz(l:List Fp)(n:Nat)(hn:n≤64)(hl:l.length≤8192)(h:∀p∈l,p.a<n∧p.b<n∧1≤p.c∧p.c≤14400):eR [.rs 4 (l.map Fp.pv),.int .i64 n]=some (.rs 4 (fg (yF n (fE n l false) (fE n l true))))∧jc [.rs 4 (l.map Fp.pv),.int .i64 n]=some (.rs 4 (fg (yF n (fE n l false) (fE n l true)))):=by
 have hr:=RQ l n hn hl fun p hp=>⟨(h p hp).1,(h p hp).2.1⟩;rw[←Es]at hr;refine⟨?_,hr⟩;have hB:(14400:Nat)≤1073741824:=by omega
 obtain⟨D0,d0,e0⟩:=TK l n 14400 hn hl hB (fun p hp=>⟨(h p hp).1,(h p hp).2.1,(h p hp).2.2.2⟩) false;obtain⟨D1,d1,e1⟩:=TK l n 14400 hn hl hB (fun p hp=>⟨(h p hp).1,(h p hp).2.1,(h p hp).2.2.2⟩) true;have hM:14400*n<rA:=by grind
 have Va:Ce n (fun i k=>Ql (D0 i k) (D1 i k) i k) n=fg (yF n (fE n l false) (fE n l true)):=by
  rw[Es];unfold Ce zO;rw[aoP,aoP];congr 1;apply an2;intro i hi;rw[aoP,aoP];congr 1;apply an2;intro k hk;have hi:=an0.1 hi;have hk:=an0.1 hk;dsimp only;by_cases I9:i=k
  ·simp_all[Ql,BY,FY,fE]
  grind [aiq,adC,adD]
 have a0:ak 4 (.rs 4 (l.map Fp.pv))=some (l.map Fp.pv):=by rfl
 have a1:∀es,ak 1 (.rs 1 es)=some es:=fun es=>by rfl
 have hlen:((fq n D0).length:Int)=(n:Int):=by simp[fq]
 simp only[eR,qu,a0,Ja,U,e0,e1,a1,hlen];exact RR n D0 D1 hn (by rw[Va];exact Vq (Po (O3 _ _ _) (Pp _ _ _)))
end Go.Ab.Nw
