import Derived.Test.YteddgaennnfacaaGreatNwP1
namespace Go.Ab.Nw
set_option maxRecDepth 100000
set_option linter.all false
def Ry(E:List Ed)(M:Nat)(s v:Nat)(d:Int):Prop:=(d= -1∧∀L,¬MK E s v L)∨∃L:Nat,d=L∧L≤M∧MK E s v L∧∀L',MK E s v L'→L≤L'
theorem Ry.unique{E:List Ed}{M M' s v:Nat}{d d':Int}(h:Ry E M s v d)(h':Ry E M' s v d'):d=d':=by
 rcases h with⟨e,h⟩|⟨L,e,_,h1,h2⟩
 ·rcases h' with⟨e',_⟩|⟨L',_,_,h1',_⟩
  ·omega
  simp_all
 ·rcases h' with⟨_,h'⟩|⟨L',e',_,h1',h2'⟩
  ·exact absurd h1 (h' L)
  grind
theorem MK.mem{E E':List Ed}(h:∀y,y∈E→y∈E'){s v L:Nat}(hr:MK E s v L):MK E' s v L:=by
 rcases hr with hr|hr
 ·exact .inl hr
 ·exact .inr (hr.mono fun i j c hc=>h _ hc)
theorem Ry.mem{E E':List Ed}(h:∀y,y∈E↔y∈E'){M s v:Nat}{d:Int}(hd:Ry E M s v d):Ry E' M s v d:=by
 rcases hd with⟨e,h1⟩|⟨L,e,hM,h1,h2⟩
 ·exact .inl ⟨e,fun L hL=>h1 L (hL.mem fun y hy=>(h y).2 hy)⟩
 ·exact .inr ⟨L,e,hM,h1.mem fun y hy=>(h y).1 hy,fun L' hL=>h2 L' (hL.mem fun y hy=>(h y).2 hy)⟩
def zz(n:Nat)(D:Nat→Int):List PV:=(List.range n).map fun v=>.int .i64 (D v)
def dp(n:Nat)(D:Nat→Nat→Int):List PV:=(List.range n).map fun s=>.rs 1 (zz n (D s))
variable{D:Nat→Nat→Int}
theorem OU{n:Nat}{D':Nat→Nat→Int}(h:∀s v,s<n→v<n→D s v=D' s v):dp n D=dp n D':=by unfold dp;apply alQ;simp_all[zz,congr,alQ]
theorem Y5(E:List Ed)(n B:Nat)(hn:n≤64)(hE:E.length≤4096)(hB:B≤1073741824)(h:∀y∈E,y.f<n∧y.t<n∧y.c≤B):∃D:Nat→Nat→Int,(∀s v,s<n→v<n→Ry E (B*n) s v (D s v))∧iP [.int .i64 n,.rs 3 (E.map Ed.pv)]=some (.aG [.rs 1 (dp n D),.int .i64 0]):=by
 have h':∀y∈E,y.f<n∧y.t<n∧y.c≤1073741824:=fun y hy=>⟨(h y hy).1,(h y hy).2.1,by grind⟩;have hG:=Y4 E n hn hE h';have each:∀s,∃o:qj,s<n→(∃pu,DI E n s B o pu [])∧gD [.int .i64 n,.rm 3 ((OT (Dk E)).map fun x=>x.1) ((OT (Dk E)).map fun x=>x.2.pP),.int .i64 s]=some (.rs 3 (eh n o)):=fun s=>by
  by_cases hs:s<n
  ·grind [VU]
  ·exact⟨fun _=>none,fun h=>absurd h hs⟩
 obtain⟨o,ho⟩:=Classical.axiomOfChoice each;refine⟨fun s v=>MM (o s v),fun s v hs hv=>?_,?_⟩
 ·obtain⟨⟨pu,hI⟩,_⟩:=ho s hs;have:=hI.done h hv;cases hl:o s v with
  |none=>rw[hl]at this;exact .inl ⟨by dsimp only;rw[hl];rfl,this⟩
  |some p=>obtain⟨L,e⟩:=p;rw[hl]at this;exact .inr ⟨L,by dsimp only;rw[hl];rfl,this.1,this.2.1,this.2.2⟩
 ·have e0:ah 3 (.rs 3 (E.map Ed.pv))=some (E.map Ed.pv):=by rfl
  have bF:(0:Int)≤(n:Int)∧(n:Int)≤(n:Int)∧n*24≤ag∧0<24∧0<1:=by grind [ag]
  have hz:((0:Int) !=0)=false:=rfl;simp only[iP,yW,Fv,e0,U,Y2 E n hn hE h',hz,IN,Wi,MO E hE,cM,IT,ali,T0 bF,al5];refine aK (fun k=>((n:Int),PV.rm 3 ((OT (Dk E)).map fun x=>x.1) ((OT (Dk E)).map fun x=>x.2.pP),(n:Int),(k:Int),vP n k (fun s=>.rs 1 (zz n fun v=>MM (o s v))) (.rs 0 []),())) n (fun k hk rec=>?_) (fun rec=>?_) (by unfold rounds;omega) ?_
  ·unfold mo;dsimp only;have hg:decide ((k:Int)<(n:Int))=true:=by simp;omega
   have e3:ah 3 (.rs 3 (eh n (o k)))=some (eh n (o k)):=by rfl
   have e1:ah 1 (.rs 1 ((List.range n).map fun v=>PV.int .i64 (MM (o k v))))=some ((List.range n).map fun v=>PV.int .i64 (MM (o k v))):=by rfl
   rw[T0 hg,(ho k hk).2,U,e3,U,Rx n hn,U,e1,U,T0 (CY (by rw[OO];omega)),ali,OP hk,U,af (by omega)];simp_all[OQ,zz,MM]
  ·unfold mo;dsimp only;rw[acB (by simp),OR];rfl
  ·rw[Lp];rfl
theorem Y6(E E':List Ed)(n B:Nat)(hn:n≤64)(hE:E'.length≤4096)(hB:B≤1073741824)(h:∀y∈E,y.f<n∧y.t<n∧y.c≤B)(he:∀y,y∈E↔y∈E')(hD:∀s v,s<n→v<n→Ry E (B*n) s v (D s v)):iP [.int .i64 n,.rs 3 (E'.map Ed.pv)]=some (.aG [.rs 1 (dp n D),.int .i64 0]):=by obtain⟨D',d1,d2⟩:=Y5 E' n B hn hE hB fun y hy=>h y ((he y).2 hy);rw[d2,OU fun s v hs hv=>((hD s v hs hv).mem he).unique (d1 s v hs hv)]
structure Fp where
 a:Nat
 b:Nat
 c:Nat
 free:Bool
 deriving DecidableEq
def Fp.pv(p:Fp):PV:=.agg [.int .i64 p.a,.int .i64 p.b,.int .i64 p.c,.bool p.free]
theorem fp0(p:Fp):cell p.pv 0=.int .i64 p.a:=rfl
theorem fp1(p:Fp):cell p.pv 1=.int .i64 p.b:=rfl
theorem fp2(p:Fp):cell p.pv 2=.int .i64 p.c:=rfl
theorem fp3(p:Fp):cell p.pv 3=.bool p.free:=rfl
def Fp.ed(p:Fp):Ed:=⟨p.a,p.b,p.c⟩
def wY(z:Ed):List Ed→List Ed
 |[]=>[z]
 |e::r=>if z.f=e.f∧z.t=e.t then z::r else e::wY z r
def EC(a b:Nat):List Ed→Option Nat
 |[]=>none
 |e::r=>if a=e.f∧b=e.t then some e.c else EC a b r
theorem Jg(a b:Nat)(z:Ed):∀m,EC a b (wY z m)=if a=z.f∧b=z.t then some z.c else EC a b m
 |[]=>rfl
 |e::r=>by
  simp only[wY];by_cases h:z.f=e.f∧z.t=e.t
  ·simp_all[T0,EC,acB]
  ·rw[acB h];simp only[EC];by_cases h2:a=e.f∧b=e.t
   ·grind
   simp_all[acB,Jg]
theorem OV(z e:Ed):∀m,e∈wY z m→e=z∨e∈m
 |[],h=>by simp[wY]at h;exact .inl h
 |x::r,h=>by
  simp only[wY]at h;split at h
  ·rcases alq.1 h with h|h
   ·exact .inl h
   ·exact .inr (by simp[h])
  ·rcases alq.1 h with h|h
   ·exact .inr (by simp[h])
   ·rcases OV z e r h with h|h
    ·exact .inl h
    ·exact .inr (by simp[h])
theorem OW{a b x:Nat}:∀{m:List Ed},EC a b m=some x→∃e∈m,e.f=a∧e.t=b∧e.c=x
 |[],h=>by cases h
 |e::r,h=>by
  simp only[EC]at h;split at h
  ·simp_all
  simp_all[OW]
theorem OX(z:Ed):∀m,(wY z m).length≤m.length+1
 |[]=>by simp[wY]
 |e::r=>by
  simp only[wY];split
  ·simp
  ·have:=OX z r;simp;omega
def OY(fr:Bool)(m:List Ed)(p:Fp):List Ed:=if(fr&& !p.free)=true then m else match EC p.a p.b m with
 |none=>wY p.ed m
 |some x=>if p.c<x then wY p.ed m else m
def kZ(fr:Bool)(l:List Fp):List Ed:=l.foldl (OY fr) []
theorem FI(fr:Bool)(l:List Fp)(p:Fp):kZ fr (l++[p])=OY fr (kZ fr l) p:=by simp[kZ]
def counted(fr:Bool)(l:List Fp):List Ed:=(l.filter fun p=> !(fr&& !p.free)).map Fp.ed
theorem MP(fr:Bool)(l:List Fp):(∀e∈kZ fr l,e∈counted fr l)∧(∀e∈counted fr l,∃x,EC e.f e.t (kZ fr l)=some x∧x≤e.c)∧(kZ fr l).length≤l.length:=by
 rw[←anb l];induction l.reverse with
 |nil=>simp[kZ,counted,alz]
 |cons p l ih=>
  rw[anx,FI];obtain⟨i1,i2,i3⟩:=ih;have hc:counted fr (l.reverse++[p])=counted fr l.reverse++(if(fr&& !p.free)=true then[]else[p.ed]):=by unfold counted;grind
  rw[hc];unfold OY;by_cases h:(fr&& !p.free)=true
  ·grind
  ·rw[acB h,acB h];have put:(∀e∈wY p.ed (kZ fr l.reverse),e∈counted fr l.reverse++[p.ed]):=fun e he=>by
    rcases OV _ _ _ he with rfl|he
    ·simp
    simp_all
   have len:(wY p.ed (kZ fr l.reverse)).length≤(l.reverse++[p]).length:=by grind [OX,kZ]
   cases hb:EC p.a p.b (kZ fr l.reverse)with
   |none=>
    refine⟨put,fun e he=>?_,len⟩;rw[Jg];by_cases hk:e.f=p.ed.f∧e.t=p.ed.t
    ·rw[T0 hk];rcases alM.1 he with he|he
     ·obtain⟨x,h1,_⟩:=i2 e he;rw[hk.1,hk.2]at h1;rw[show p.ed.f=p.a from rfl,show p.ed.t=p.b from rfl,hb]at h1;cases h1
     simp_all
    grind
   |some x=>
    dsimp only;by_cases hx:p.c<x
    ·rw[T0 hx];refine⟨put,fun e he=>?_,len⟩;rw[Jg];by_cases hk:e.f=p.ed.f∧e.t=p.ed.t
     ·rw[T0 hk];rcases alM.1 he with he|he
      ·obtain⟨y,h1,h2⟩:=i2 e he;rw[hk.1,hk.2,show p.ed.f=p.a from rfl,show p.ed.t=p.b from rfl,hb]at h1;cases h1;exact⟨_,rfl,by show p.c≤e.c;omega⟩
      simp_all
     grind
    ·rw[acB hx];refine⟨fun e he=>aom _ (i1 e he),fun e he=>?_,by simp at i3⊢;omega⟩;rcases alM.1 he with he|he
     ·exact i2 e he
     ·simp at he;subst he;exact⟨x,hb,by show x≤p.c;omega⟩
def oR(e:Ed):PV×PV:=(.agg [.int .i64 e.f,.int .i64 e.t,.bool false],.int .i64 e.c)
theorem agX(a b c d:Nat):bM (PV.agg [.int .i64 a,.int .i64 b,.bool false]).cells (PV.agg [.int .i64 c,.int .i64 d,.bool false]).cells=decide (a=c∧b=d):=by
 have h:∀x y:Nat,((x:Int)==(y:Int))=decide (x=y):=fun x y=>by grind
 simp only[PV.cells,bM,peq,amH,h,an6,Bool.decide_and]
theorem adp(a b:Nat):∀m:List Ed,bS (.agg [.int .i64 a,.int .i64 b,.bool false]) (.int .i64 0) (m.map oR)=.int .i64 (((EC a b m).getD 0:Nat):Int)∧lM (.agg [.int .i64 a,.int .i64 b,.bool false]) (m.map oR)=(EC a b m).isSome
 |[]=>⟨rfl,rfl⟩
 |e::r=>by obtain⟨h1,h2⟩:=adp a b r;simp only[alu,oR,bS,lM,agX,EC];grind
theorem aev(z:Ed):∀m:List Ed,dm (.agg [.int .i64 z.f,.int .i64 z.t,.bool false]) (.int .i64 z.c) (m.map oR)=(wY z m).map oR
 |[]=>rfl
 |e::r=>by
  have ih:=aev z r;simp only[alu,dm,wY];rw[show(oR e)=(PV.agg [.int .i64 e.f,.int .i64 e.t,.bool false],PV.int .i64 e.c)from rfl];simp only[agX];by_cases h:z.f=e.f∧z.t=e.t
  ·simp[h,oR]
  ·simp only[h,alw,IN,Wi,alu,ih];rfl
theorem H4{R:Type}{n:Nat}{g:Nat→Option R}{r:R}(hn:0<n)(h:∀i,i<n→g i=some r):vB n g=some r:=by unfold vB;have hh:∃r,∀i,i<n→g i=some r:=⟨r,h⟩;rw[aoB hh];grind
theorem VV{n:Nat}(hn:n≤64)(r:PV)(agY:List Ed→Prop)(xD:∀acc,agY acc→∃D,iP [.int .i64 n,.rs 3 (acc.map Ed.pv)]=some (.aG [.rs 1 D,.int .i64 0])∧r=.rs 1 D):∀(rem acc:List Ed)(N:Nat),rem.length<N→acc.length+rem.length≤4096→(∀l,(∀y,y∈l↔y∈acc∨y∈rem)→l.length=acc.length+rem.length→agY l)→dQ (eB aX) N ((n:Int),acc.map Ed.pv,rem.map oR,())=some r:=by
 intro rem;generalize hk:rem.length=k;induction k generalizing rem with
 |zero=>intro acc N hN hl hg;have:rem=[]:=alv hk;subst this;obtain⟨N,rfl⟩:∃m,N=m+1:=⟨N-1,by omega⟩;simp only[dQ];unfold eB;dsimp only;rw[T0 (show(List.map oR []).isEmpty=true from rfl)];obtain⟨D,h1,h2⟩:=xD acc (hg acc (fun y=>by simp) (by simp));have e2:bR 2 (.aG [.rs 1 D,.int .i64 0])=some [.rs 1 D,.int .i64 0]:=rfl;simp_all[ah,U,adz,aiJ,Fv]
 |succ k ih=>
  intro acc N hN hl hg;obtain⟨N,rfl⟩:∃m,N=m+1:=⟨N-1,by omega⟩;simp only[dQ];generalize N6:dQ (eB aX) N=rec;unfold eB;dsimp only
  have cC:¬(rem.map oR).isEmpty=true:=by cases rem with
   |nil=>simp at hk
   |cons _ _=>simp
  rw[acB cC];refine H4 (by simp;omega) fun i hi=>?_;have sI:i<rem.length:=by simpa using hi
  obtain⟨e,he⟩:∃e,rem[i]?=some e:=⟨_,AI sI⟩;have Gk:(rem.map oR)[i]?=some (oR e):=by simp_all
  have bF:(acc.map Ed.pv++[PV.agg [.int .i64 e.f,.int .i64 e.t,.int .i64 e.c]]).length*24≤ag∧0<24:=by grind [List.length_append,List.length_map,List.length_cons,List.length_nil,ag]
  have G2:acc.map Ed.pv++[PV.agg [.int .i64 e.f,.int .i64 e.t,.int .i64 e.c]]=(acc++[e]).map Ed.pv:=by simp[Ed.pv]
  have aew:(rem.map oR).eraseIdx i=(rem.eraseIdx i).map oR:=by apply alL;grind
  have hle:(rem.eraseIdx i).length=k:=by grind
  rw[Gk,U];rw[G2]at bF;simp only[oR,ag3,agQ,aeu,Fv,U,G2,T0 bF,aew];rw[←N6];refine ih (rem.eraseIdx i) hle (acc++[e]) N (by omega) (by simp;omega) fun l SH WK=>hg l (fun y=>?_) (by rw[WK];simp;omega);rw[SH];have bk:y∈rem↔y=e∨y∈rem.eraseIdx i:=by
   rw[List.mem_eraseIdx_iff_getElem?];constructor
   ·grind [List.getElem?_of_mem,Option.some.inj]
   grind
  grind
theorem MK.leq{E E':List Ed}(h:∀e∈E,∃e'∈E',e'.f=e.f∧e'.t=e.t∧e'.c≤e.c){s v L:Nat}(hr:MK E s v L):∃L',L'≤L∧MK E' s v L':=by
 rcases hr with⟨h1,h2⟩|hr
 ·exact⟨L,alz _,.inl ⟨h1,h2⟩⟩
 ·obtain⟨L',l1,l2⟩:=hr.leq (w':=ew E') fun i j c hc=>by
   obtain⟨e',m,e1,e2,e3⟩:=h _ hc;refine⟨e'.c,e3,?_⟩;unfold ew;have:(⟨i,j,e'.c⟩:Ed)=e':=by have e1:e'.f=i:=e1;have e2:e'.t=j:=e2;rw[←e1,←e2]
   rw[this];omega
  exact⟨L',l1,.inr l2⟩
theorem Y7{fr:Bool}{l:List Fp}{M s v:Nat}{d:Int}(h:Ry (kZ fr l) M s v d):Ry (counted fr l) M s v d:=by
 obtain⟨b1,b2,_⟩:=MP fr l;have low:∀{L},MK (counted fr l) s v L→∃L',L'≤L∧MK (kZ fr l) s v L':=fun hr=>hr.leq fun e he=>by grind [OW]
 rcases h with⟨e,h1⟩|⟨L,e,hM,h1,h2⟩
 ·refine .inl ⟨e,fun L hL=>?_⟩;simp_all
 ·refine .inr ⟨L,e,hM,h1.mem b1,fun L' hL=>?_⟩;grind
theorem rK{fr:Bool}{l:List Fp}{e:Ed}(h:e∈counted fr l):∃p∈l,p.ed=e:=by unfold counted at h;grind
theorem VW{A:Type}[DecidableEq A]:∀(a b:List A),a.Nodup→(∀x∈a,x∈b)→a.length≤b.length:=by
 intro a;induction a with
 |nil=>simp
 |cons x a ih=>
  intro b hn hs;rw[amJ]at hn;have hx:x∈b:=hs x (by simp);have:=ih (b.erase x) hn.2 fun y hy=>by grind
  grind
def Ta(e:Ed):Nat×Nat:=(e.f,e.t)
theorem Lu(z:Ed)(k:Nat×Nat):∀m:List Ed,k∈(wY z m).map Ta↔k=Ta z∨k∈m.map Ta
 |[]=>by simp[wY]
 |e::r=>by
  have ih:=Lu z k r;simp only[wY];split
  ·rename_i h;have:Ta z=Ta e:=by simp[Ta,h.1,h.2]
   simp only[alu,alq,this];grind
  ·simp only[alu,alq,ih];grind
theorem Dl(z:Ed):∀m:List Ed,(m.map Ta).Nodup→((wY z m).map Ta).Nodup
 |[],_=>by simp[wY]
 |e::r,h=>by
  rw[alu,amJ]at h;simp only[wY];split
  ·rename_i hz;have:Ta z=Ta e:=by simp[Ta,hz.1,hz.2]
   rw[alu,amJ,this];exact h
  ·rename_i hz;rw[alu,amJ,Lu];refine⟨fun hk=>hk.elim (fun e'=>hz ?_) h.1,Dl z r h.2⟩;simp only[Ta,akj]at e';exact⟨e'.1.symm,e'.2.symm⟩
theorem Rz(fr:Bool)(l:List Fp):((kZ fr l).map Ta).Nodup:=by
 rw[←anb l];induction l.reverse with
 |nil=>simp[kZ]
 |cons p r ih=>
  rw[anx,FI];unfold OY;split
  ·exact ih
  ·split
   ·exact Dl _ _ ih
   ·split
    ·exact Dl _ _ ih
    ·exact ih
theorem Y8{n:Nat}(hn:n≤64)(fr:Bool)(l:List Fp)(h:∀p∈l,p.a<n∧p.b<n):(kZ fr l).length≤4096:=by
 have h1:=VW ((kZ fr l).map Ta) ((List.range n).flatMap fun i=>(List.range n).map fun k=>(i,k)) (Rz fr l) fun x hx=>by obtain⟨e,he,rfl⟩:=alC.1 hx;obtain⟨p,hp,rfl⟩:=rK ((MP fr l).1 e he);exact alS.2 ⟨p.a,alI.2 (h p hp).1,alC.2 ⟨p.b,alI.2 (h p hp).2,rfl⟩⟩
 have h2:((List.range n).flatMap fun i=>(List.range n).map fun k=>(i,k)).length=n*n:=by
  have hs:∀m:List Nat,(m.map fun _=>n).sum=m.length*n:=fun m=>by
   induction m with
   |nil=>simp
   |cons a m ih=>rw[alu,List.sum_cons,ih,aiK,Nat.succ_mul,Nat.add_comm]
  rw[List.length_flatMap];simp only[BY,amZ];rw[hs,amZ]
 have h3:n*n≤64*64:=amR hn hn;rw[BY]at h1;omega
theorem Tb(l:List Fp)(n B:Nat)(hn:n≤64)(hl:l.length≤8192)(hB:B≤1073741824)(h:∀p∈l,p.a<n∧p.b<n∧p.c≤B)(fr:Bool):∃D:Nat→Nat→Int,(∀s v,s<n→v<n→Ry (counted fr l) (B*n) s v (D s v))∧eY [.rs 4 (l.map Fp.pv),.int .i64 n,.bool fr]=some (.rs 1 (dp n D)):=by
 obtain⟨b1,b2,b3⟩:=MP fr l;have hbe:∀y∈kZ fr l,y.f<n∧y.t<n∧y.c≤B:=fun y hy=>by obtain⟨p,hp,rfl⟩:=rK (b1 y hy);exact h p hp
 have b4:=Y8 hn fr l fun p hp=>⟨(h p hp).1,(h p hp).2.1⟩;obtain⟨D,d1,d2⟩:=Y5 (kZ fr l) n B hn (by omega) hB hbe;refine⟨D,fun s v hs hv=>Y7 (d1 s v hs hv),?_⟩;have e0:ah 4 (.rs 4 (l.map Fp.pv))=some (l.map Fp.pv):=by rfl
 simp only[eY,na,e0,U,Fv,asBool];refine aK (fun k=>((n:Int),fr,l.map Fp.pv,((l.map Fp.pv).length:Int),(k:Int),(kZ fr (l.take k)).map oR,())) l.length (fun k hk rec=>?_) (fun rec=>?_) (by unfold rounds;omega) (by rfl)
 ·unfold jQ;dsimp only;have hg:decide ((k:Int)<((l.map Fp.pv).length:Int))=true:=by simp;omega
  obtain⟨p,hp⟩:∃p,l[k]?=some p:=⟨_,AI hk⟩;have Gk:(l.map Fp.pv)[k]?=some p.pv:=by simp_all
  have SR:l.take (k+1)=l.take k++[p]:=by rw[anw,hp];rfl
  have hr7:(bif fr then(asBool (cell p.pv 3)).bind fun b6=>some !b6 else some false)=some (fr&& !p.free):=by rw[fp3];cases fr<;>rfl
  obtain⟨g1,g2⟩:=adp p.a p.b (kZ fr (l.take k));rw[T0 hg,ab,Gk,U,hr7,U,af (by omega),SR,FI];unfold OY;by_cases hf:(fr&& !p.free)=true
  ·simp_all
  ·rw[acB hf,acB hf];simp only[fp0,fp1,fp2,Fv,U,g1,g2];cases hb:EC p.a p.b (kZ fr (l.take k))with
   |none=>simp only[am6,alA,cond_true,U,IT];rw[show(p.c:Int)=((p.ed.c:Nat):Int)from rfl,show(p.a:Int)=((p.ed.f:Nat):Int)from rfl,show(p.b:Int)=((p.ed.t:Nat):Int)from rfl,aev]
   |some x=>
    simp only[anq,alc,cond_false,U,amo];by_cases hx:p.c<x
    ·have hd:decide ((p.c:Int)<(x:Int))=true:=by simp;omega
     simp only[hd,IT,T0 hx];rw[show(p.c:Int)=((p.ed.c:Nat):Int)from rfl,show(p.a:Int)=((p.ed.f:Nat):Int)from rfl,show(p.b:Int)=((p.ed.t:Nat):Int)from rfl,aev]
    grind
 ·unfold jQ;dsimp only;have SH:((kZ fr (l.take l.length)).map oR).length≤maxLen:=by grind [List.take_length,List.length_map,maxLen,decide]
  have bF:(0:Int)≤0∧0≤((((kZ fr (l.take l.length)).map oR).length:Nat):Int)∧((((kZ fr (l.take l.length)).map oR).length:Nat):Int).toNat*24≤ag∧0<24∧0<3:=by grind [Int.toNat_natCast,List.take_length,List.length_map,ag]
  rw[acB (by simp),T0 SH,T0 bF,alT,vC];have hp:=VV hn (.rs 1 (dp n D)) (fun acc=>(∀y,y∈kZ fr l↔y∈acc)∧acc.length≤4096) (fun acc⟨h1,h2⟩=>⟨_,Y6 (kZ fr l) acc n B hn h2 hB hbe h1 d1,rfl⟩) (kZ fr l) [] rounds (by unfold rounds;omega) (by simp;omega) (fun l' h1 h2=>⟨fun y=>by rw[h1];simp,by rw[h2];simp;omega⟩);exact hp
abbrev Mx:=Nat→Nat→Nat
def Fu(d:Mx)(i j x:Nat):Mx:=fun a b=>if a=i∧b=j then x else d a b
def dj(k i:Nat)(d:Mx):Nat→Mx
 |0=>d
 |j+1=>Fu (dj k i d j) i j (min (dj k i d j i j) (dj k i d j i k+dj k i d j k j))
def di(n k:Nat)(d:Mx):Nat→Mx
 |0=>d
 |i+1=>dj k i (di n k d i) n
def dk(n:Nat)(d:Mx):Nat→Mx
 |0=>d
 |k+1=>di n k (dk n d k) n
structure SS(w:Nat→Nat→Nat→Prop)(inf n k i j:Nat)(d:Mx):Prop where
 fw:Fw w inf n d
 nC:∀a b,a<n→b<n→uJ w k a b (d a b)
 new:∀a b,a<n→b<n→(a<i∨(a=i∧b<j))→uJ w (k+1) a b (d a b)
variable {w:Nat→Nat→Nat→Prop} {inf n:Nat}
theorem uJ.le{k i j x y:Nat}(h:uJ w k i j x)(hy:y≤x):uJ w k i j y:=fun L hL=>alH hy (h L hL)
theorem SS.cell{k i j:Nat}{d:Mx}(h:SS w inf n k i j d)(hi:i<n)(hj:j<n)(hk:k<n):SS w inf n k i (j+1) (Fu d i j (min (d i j) (d i k+d k j))):=by
 obtain⟨h1,h2,h3⟩:=acf h.fw hi hj hk (x:=min (d i j) (d i k+d k j)) rfl (d':=Fu d i j (min (d i j) (d i k+d k j))) (fun a b=>rfl);refine⟨h1,fun a b ha hb=>(h.nC a b ha hb).le (h2 a b),fun a b ha hb hd=>?_⟩;by_cases e:a=i∧b=j
 ·obtain⟨rfl,rfl⟩:=e;exact h3 (h.nC _ _ ha hk) (h.nC _ _ hk hb) (h.nC _ _ ha hb)
 ·exact(h.new a b ha hb (by omega)).le (h2 a b)
theorem SS.row{k i:Nat}{d:Mx}(h:SS w inf n k i 0 d)(hi:i<n)(hk:k<n):∀j,j≤n→SS w inf n k i j (dj k i d j)
 |0,_=>h
 |j+1,hj=>(SS.row h hi hk j (by omega)).cell hi (by omega) hk
theorem SS.rows{k:Nat}{d:Mx}(h:SS w inf n k 0 0 d)(hk:k<n):∀i,i≤n→SS w inf n k i 0 (di n k d i)
 |0,_=>h
 |i+1,hi=>by have:=(SS.rows h hk i (by omega)).row (by omega) hk n (alz _);exact⟨this.fw,this.nC,fun a b ha hb hd=>this.new a b ha hb (by omega)⟩
structure Y9(w:Nat→Nat→Nat→Prop)(inf n k:Nat)(d:Mx):Prop where
 fw:Fw w inf n d
 low:∀a b,a<n→b<n→uJ w k a b (d a b)
theorem Y9.rounds{d:Mx}(h:Y9 w inf n 0 d):∀k,k≤n→Y9 w inf n k (dk n d k)
 |0,_=>h
 |k+1,hk=>by have ih:=Y9.rounds h k (by omega);have:=SS.rows (k:=k) ⟨ih.fw,ih.low,fun a b ha hb hd=>by omega⟩ (by omega) n (alz _);exact⟨this.fw,fun a b ha hb=>this.new a b ha hb (.inl ha)⟩
def Tc(inf:Nat):Mx:=fun _ _=>inf
def lay(d:Mx)(e:Ed):Mx:=Fu d e.f e.t (min (d e.f e.t) e.c)
def start(inf:Nat)(E:List Ed):Mx:=E.foldl lay (Tc inf)
theorem CZ(inf:Nat)(E:List Ed)(e:Ed):start inf (E++[e])=lay (start inf E) e:=by simp[start]
theorem Za(E:List Ed):(∀i j,start inf E i j≤inf)∧(∀i j,start inf E i j<inf→(⟨i,j,start inf E i j⟩:Ed)∈E)∧∀e∈E,start inf E e.f e.t≤e.c:=by
 rw[←anb E];induction E.reverse with
 |nil=>simp[alz,start,Tc]
 |cons e l ih=>
  rw[anx,CZ];obtain⟨i1,i2,i3⟩:=ih;have hl:∀a b,lay (start inf l.reverse) e a b=if a=e.f∧b=e.t then min (start inf l.reverse e.f e.t) e.c else start inf l.reverse a b:=fun a b=>rfl;refine⟨fun a b=>?_,fun a b h=>?_,fun z hz=>?_⟩
  ·grind
  ·rw[hl]at h⊢;split
   ·rename_i hk;rw[T0 hk]at h;by_cases hm:start inf l.reverse e.f e.t≤e.c
    ·simp_all
    ·rw[show min (start inf l.reverse e.f e.t) e.c=e.c by omega,hk.1,hk.2];simp
   simp_all
  grind
theorem yK(E:List Ed):Y9 (ew E) inf n 0 (start inf E):=by obtain⟨h1,h2,h3⟩:=Za (inf:=inf) E;exact⟨⟨fun i j _ _=>h1 i j,fun i j _ _ h=>.Fq (h2 i j h)⟩,fun a b _ _ L hL=>h3 ⟨a,b,L⟩ hL⟩
theorem ack{E:List Ed}{M:Nat}(hE:∀y∈E,y.f<n∧y.t<n)(hM:M<inf){i j:Nat}(hi:i<n)(hj:j<n)(St:i≠j){D:Int}(hD:Ry E M i j D):(D= -1∧dk n (start inf E) n i j=inf)∨(D=(dk n (start inf E) n i j:Int)∧dk n (start inf E) n i j≤M):=by
 have hd:=(yK (n:=n) (inf:=inf) E).rounds n (alz _);have rch:∀L,MK E i j L↔iI (ew E) i j L:=fun L=>⟨fun h=>by rcases h with⟨h,_⟩|h;exact absurd h.symm St;omega,.inr⟩;have hs:=acg (w:=ew E) (fun a b c h=>(hE _ h).1) hd.fw hi hj (hd.low i j hi hj) (fun L abx hw=>by
  rcases hD with⟨_,h⟩|⟨L',_,hle,h1,h2⟩
  ·simp_all
  grind)
 rcases hD with⟨e,h⟩|⟨L',e,hle,h1,h2⟩
 ·left;refine⟨e,?_⟩;have alb:=hd.fw.top i j hi hj;by_cases bQ:dk n (start inf E) n i j<inf
  ·exact absurd ((rch _).2 (hd.fw.real i j hi hj bQ)) (h _)
  omega
 ·right;have:(if dk n (start inf E) n i j<inf then some (dk n (start inf E) n i j)else none)=some L':=hs.unique ⟨(rch L').1 h1,fun L'' hw=>h2 L'' ((rch L'').2 hw)⟩;simp_all
def zK(n:Nat)(r:Nat→Nat):List PV:=(List.range n).map fun j=>.int .i64 (r j)
def iU(n:Nat)(d:Mx):List PV:=(List.range n).map fun i=>.mE 1 (zK n (d i))
theorem rI(n:Nat)(d:Mx):(iU n d).length=n:=by simp[iU]
theorem lU(n:Nat)(r:Nat→Nat):(zK n r).length=n:=by simp[zK]
theorem oq{n i:Nat}(d:Mx)(h:i<n):(iU n d)[i]?=some (.mE 1 (zK n (d i))):=by simp[iU,h]
theorem rJ{n j:Nat}(r:Nat→Nat)(h:j<n):(zK n r)[j]?=some (.int .i64 (r j)):=by simp[zK,h]
theorem Eo{n i j:Nat}(d:Mx)(x:Nat)(hi:i<n)(hj:j<n):(iU n d).set i (.mE 1 ((zK n (d i)).set j (.int .i64 x)))=iU n (Fu d i j x):=by
 apply alL;intro a;rw[al2];by_cases e:i=a
 ·subst e;rw[T0 rfl,T0 (by rw[rI];omega),oq _ hi];congr 2;apply alL;intro b;rw[al2];by_cases e:j=b
  ·subst e;rw[T0 rfl,T0 (by rw[lU];omega),rJ _ hj];simp[Fu]
  ·rw[acB e];by_cases hb:b<n
   ·simp_all[rJ,Fu,Ne.symm]
   simp_all[ams,lU]
 ·rw[acB e];by_cases ha:a<n
  ·rw[oq _ ha,oq _ ha];simp_all[congr,zK,alQ,Fu,Ne.symm]
  simp_all[ams,rI]
theorem asR(es:List PV):b9 1 (cell (.mE 1 es) 0)=some es:=rfl
theorem cI(x:Int):cell (.int .i64 x) 0=.int .i64 x:=rfl
theorem ab0(e p:PV):setRow 1 e 0 p=p:=rfl
theorem ab1(q p:PV):setCells 1 q 0 1 p=p:=rfl
theorem acm(a b:Nat)(hb:b≤4398046511104):(if IntKind.i64.wrap (b:Int)<(a:Int)then IntKind.i64.wrap (b:Int)else(a:Int))=((min a b:Nat):Int):=by grind [aW]
theorem aex(xT:Int×Int×Int×List PV×Unit→Option PV)(n k i:Nat)(d:Mx)(hn:n≤64)(hk:k<n)(hi:i<n)(hd:∀j,j≤n→∀a b,a<n→b<n→dj k i d j a b≤1099511627776):aX.run (j3 xT) ((n:Int),(k:Int),(i:Int),0,iU n d,())=xT ((n:Int),(k:Int),IntKind.i64.wrap ((i:Int)+1),iU n (dj k i d n),()):=by
 refine aK (fun j=>((n:Int),(k:Int),(i:Int),(j:Int),iU n (dj k i d j),())) n (fun j hj rec=>?_) (fun rec=>?_) (by unfold rounds;omega) rfl
 ·unfold j3;dsimp only;have hg:decide ((j:Int)<(n:Int))=true:=by simp;omega
  have ii:ar (i:Int) (iU n (dj k i d j)).length:=CY (by rw[rI];omega);have ik:ar (k:Int) (iU n (dj k i d j)).length:=CY (by rw[rI];omega);have ji:ar (j:Int) (zK n (dj k i d j i)).length:=CY (by rw[lU];omega);have ki:ar (k:Int) (zK n (dj k i d j i)).length:=CY (by rw[lU];omega);have jk:ar (j:Int) (zK n (dj k i d j k)).length:=CY (by rw[lU];omega);have b1:=hd j (by omega) i k hi hk;have b2:=hd j (by omega) k j hk hj;have hs:(((dj k i d j i k:Nat):Int)+((dj k i d j k j:Nat):Int))=((dj k i d j i k+dj k i d j k j:Nat):Int):=by omega
  simp only[hg,IT,T0 ii,T0 ik,ali,oq _ hi,oq _ hk,U,asR,T0 ji,T0 ki,T0 jk,rJ _ hj,rJ _ hk,cI,Fv,ab0,ab1,hs,acm _ _ (show dj k i d j i k+dj k i d j k j≤4398046511104 by omega),Eo _ _ hi hj,af (show j<9223372036854775807 by omega)];rfl
 simp[j3,acB]
theorem aey(IQ:Int×Int×List PV×Unit→Option PV)(n k:Nat)(d:Mx)(hn:n≤64)(hk:k<n)(hd:∀i,i<n→∀j,j≤n→∀a b,a<n→b<n→dj k i (di n k d i) j a b≤1099511627776):aX.run (j4 aX IQ) ((n:Int),(k:Int),0,iU n d,())=IQ ((n:Int),IntKind.i64.wrap ((k:Int)+1),iU n (di n k d n),()):=by
 refine aK (fun i=>((n:Int),(k:Int),(i:Int),iU n (di n k d i),())) n (fun i hi rec=>?_) (fun rec=>?_) (by unfold rounds;omega) rfl
 ·unfold j4;dsimp only;have hg:decide ((i:Int)<(n:Int))=true:=by simp;omega
  rw[T0 hg,aex rec n k i _ hn hk hi (hd i hi),af (by omega)];rfl
 simp[j4,acB]
theorem aez(n:Nat)(d:Mx)(hn:n≤64)(hd:∀k,k<n→∀i,i<n→∀j,j≤n→∀a b,a<n→b<n→dj k i (di n k (dk n d k) i) j a b≤1099511627776):aX.run (j5 aX) ((n:Int),0,iU n d,())=some (.rs 1 ((iU n (dk n d n)).map PV.strip)):=by
 refine aK (fun k=>((n:Int),(k:Int),iU n (dk n d k),())) n (fun k hk rec=>?_) (fun rec=>?_) (by unfold rounds;omega) rfl
 ·unfold j5;dsimp only;have hg:decide ((k:Int)<(n:Int))=true:=by simp;omega
  rw[T0 hg,aey rec n k _ hn hk (hd k hk),af (by omega)];rfl
 simp[j5,acB]
abbrev lQ:Nat:=1099511627776
theorem Lc(n:Nat):List.replicate n (PV.mE 1 (List.replicate n (PV.int .i64 1099511627776)))=iU n (Tc lQ):=by
 unfold iU zK Tc;apply alL;intro i;by_cases hi:i<n
 ·have:(List.range n).map (fun j=>PV.int .i64 ((lQ:Nat):Int))=List.replicate n (PV.int .i64 1099511627776):=by apply alL;grind
  simp_all
 simp_all
theorem Ld(n:Nat)(d:Mx):(iU n d).map PV.strip=dp n fun i j=>((d i j:Nat):Int):=by unfold iU dp zK zz;rw[am0];rfl
theorem Zb(a b:Nat):(if(b:Int)<(a:Int)then(b:Int)else(a:Int))=((min a b:Nat):Int):=by omega
theorem Ep(fr:Bool)(l:List Fp)(p:Fp):counted fr (l++[p])=if(fr&& !p.free)=true then counted fr l else counted fr l++[p.ed]:=by unfold counted;grind
theorem ED(l:List Fp)(n:Nat)(hn:n≤64)(hl:l.length≤8192)(h:∀p∈l,p.a<n∧p.b<n)(fr:Bool):iQ [.rs 4 (l.map Fp.pv),.int .i64 n,.bool fr]=some (.rs 1 (dp n fun i j=>((dk n (start lQ (counted fr l)) n i j:Nat):Int))):=by
 have e0:ah 4 (.rs 4 (l.map Fp.pv))=some (l.map Fp.pv):=by rfl
 have hE:∀y∈counted fr l,y.f<n∧y.t<n:=fun y hy=>by obtain⟨p,hp,rfl⟩:=rK hy;exact h p hp
 simp only[iQ,uM,e0,U,Fv,asBool];refine aK (fun i=>(l.map Fp.pv,(n:Int),fr,(i:Int),List.replicate i (PV.mE 1 (List.replicate n (PV.int .i64 1099511627776))),())) n (fun i hi rec=>?_) (fun rec=>?_) (by unfold rounds;omega) rfl
 ·unfold oS;dsimp only;have hg:decide ((i:Int)<(n:Int))=true:=by simp;omega
  rw[T0 hg];refine aK (fun j=>(l.map Fp.pv,(n:Int),fr,(i:Int),(j:Int),List.replicate i (PV.mE 1 (List.replicate n (PV.int .i64 1099511627776))),List.replicate j (PV.int .i64 1099511627776),())) n (fun j hj gm=>?_) (fun gm=>?_) (by unfold rounds;omega) rfl
  ·unfold oT;dsimp only;have hg:decide ((j:Int)<(n:Int))=true:=by simp;omega
   have G2:List.replicate j (PV.int .i64 1099511627776)++[PV.int .i64 1099511627776]=List.replicate (j+1) (PV.int .i64 1099511627776):=(ane ..).symm;rw[T0 hg];simp only[G2,al5];rw[T0 (by unfold ag;omega),af (by omega)]
  ·unfold oT;dsimp only;have G2:List.replicate i (PV.mE 1 (List.replicate n (PV.int .i64 1099511627776)))++[PV.mE 1 (List.replicate n (PV.int .i64 1099511627776))]=List.replicate (i+1) (PV.mE 1 (List.replicate n (PV.int .i64 1099511627776))):=(ane ..).symm;rw[acB (by simp)];simp only[G2,al5];rw[T0 (by unfold ag;omega),af (by omega)]
 ·unfold oS;dsimp only;rw[acB (by simp),Lc];refine aK (fun k=>(l.map Fp.pv,(n:Int),fr,(k:Int),iU n (start lQ (counted fr (l.take k))),())) l.length (fun k hk gm=>?_) (fun gm=>?_) (by unfold rounds;omega) rfl
  ·unfold oU;dsimp only;have hg:decide ((k:Int)<((l.map Fp.pv).length:Int))=true:=by simp;omega
   obtain⟨p,hp⟩:∃p,l[k]?=some p:=⟨_,AI hk⟩;have Gk:(l.map Fp.pv)[k]?=some p.pv:=by simp_all
   have SR:l.take (k+1)=l.take k++[p]:=by rw[anw,hp];rfl
   obtain⟨pa,pb⟩:=h p (alf hp);have hr:(bif p.free then some true else some !fr)=some (!(fr&& !p.free)):=by grind
   rw[T0 hg,ab,Gk,U,SR,Ep];simp only[fp3,asBool,U,hr];cases hb:(fr&& !p.free)with
   |true=>simp only[alc,IN,Wi,IT,af (show k<9223372036854775807 by omega)]
   |false=>
    obtain⟨d,hd⟩:∃d,d=start lQ (counted fr (l.take k)):=⟨_,rfl⟩;have ia:ar (p.a:Int) (iU n d).length:=CY (by rw[rI];omega);have ib:ar (p.b:Int) (zK n (d p.a)).length:=CY (by rw[lU];omega);have nO:iU n (start lQ (counted fr (l.take k)++[p.ed]))=iU n (Fu d p.a p.b (min (d p.a p.b) p.c)):=by rw[CZ,←hd];rfl
    simp only[alA,IT,IN,Wi,nO,←hd,fp0,fp1,fp2,Fv,U,T0 ia,ali,oq _ pa,asR,T0 ib,rJ _ pb,cI,ab0,ab1,Zb,Eo _ _ pa pb,af (show k<9223372036854775807 by omega)]
  ·unfold oU;dsimp only;rw[acB (by simp),alT,←Ld];have Yz:=yK (n:=n) (inf:=lQ) (counted fr l);exact aez n _ hn fun k hk i hi j hj a b ha hb=>by have ih:=Yz.rounds k (by omega);have:=(SS.rows (k:=k) ⟨ih.fw,ih.low,fun a b ha hb hd=>by omega⟩ hk i (by omega)).row hi hk j hj;exact this.fw.top a b ha hb
def SU(i k:Nat)(s:Int)(b:Bool):PV:=.agg [.int .i64 i,.int .i64 k,.int .i64 s,.bool b]
def xU(w f:Int)(i k:Nat):List PV:=if i=k∨w>14400 then[]else SU i k w (f==w)::(if f>w∧f≤14400 then[SU i k f true]else[])
def wJ(n:Nat)(it:Nat→Nat→List PV)(i:Nat):List PV:=(List.range n).flatMap (it i)
def zL(n:Nat)(it:Nat→Nat→List PV)(m:Nat):List PV:=(List.range m).flatMap (wJ n it)
theorem BZ(n:Nat)(it:Nat→Nat→List PV)(i:Nat):wJ (n+1) it i=wJ n it i++it i n:=by simp[wJ,amc,am3]
theorem B1(n:Nat)(it:Nat→Nat→List PV)(m:Nat):zL n it (m+1)=zL n it m++wJ n it m:=by simp[zL,amc,am3]
theorem AH{it:Nat→Nat→List PV}(h:∀i k,(it i k).length≤2)(i:Nat):∀k,(wJ k it i).length≤2*k
 |0=>by simp[wJ]
 |k+1=>by rw[BZ,aln];have:=AH h i k;have:=h i k;omega
theorem AJ{it:Nat→Nat→List PV}(h:∀i k,(it i k).length≤2)(n:Nat):∀m,(zL n it m).length≤2*n*m
 |0=>by simp[zL]
 |m+1=>by rw[B1,aln,Nat.mul_succ];have:=AJ h n m;have:=AH h m n;omega
theorem Es(w f:Int)(i k:Nat):(xU w f i k).length≤2:=by grind [xU]
theorem Fx{n k:Nat}(D:Nat→Int)(h:k<n):(zz n D)[k]?=some (.int .i64 (D k)):=by simp[zz,h]
theorem B0{n i:Nat}(D:Nat→Nat→Int)(h:i<n):(dp n D)[i]?=some (.rs 1 (zz n (D i))):=by simp[dp,h]
theorem ab2(es:List PV):ah 1 (cell (.rs 1 es) 0)=some es:=by rfl
theorem sS{a:List PV}(h:a.length≤16384):a.length*32≤ag∧0<32:=by unfold ag;omega
theorem RA(Er:Vo→Option PV)(n i:Nat)(W F:Nat→Nat→Int)(hn:n≤64)(hi:i<n)(acc:List PV)(agH:acc.length≤8192):aX.run (mq aX Er) ((n:Int),dp n W,dp n F,(i:Int),0,acc,())=Er ((n:Int),dp n W,dp n F,IntKind.i64.wrap ((i:Int)+1),acc++wJ n (fun i k=>xU (W i k) (F i k) i k) i,()):=by
 refine aK (fun k=>((n:Int),dp n W,dp n F,(i:Int),(k:Int),acc++wJ k (fun i k=>xU (W i k) (F i k) i k) i,())) n (fun k hk rec=>?_) (fun rec=>?_) (by unfold rounds;omega) (by simp[wJ])
 ·unfold mq;dsimp only;have hg:decide ((k:Int)<(n:Int))=true:=by simp;omega
  rw[BZ];have hlen:=AH (it:=fun i k=>xU (W i k) (F i k) i k) (fun i k=>Es _ _ i k) i k;generalize hA:acc++wJ k (fun i k=>xU (W i k) (F i k) i k) i=A;have hAl:A.length≤8192+128:=by grind
  rw[←alJ,hA];simp only[hg,IT,ab,B0 _ hi,U,ab2,Fx _ hk,cI,Fv,af (show k<9223372036854775807 by omega)];generalize W i k=w;generalize F i k=f;by_cases K5:i=k
  ·simp_all[xU,T0,cond_true,U,IT,alO]
  ·have hb:((i:Int)==(k:Int))=false:=by grind
   simp only[hb,cond_false,U];by_cases hw:w>14400
   ·simp_all[xU,T0,alB,IT,alO]
   ·have hr1:(A++[PV.agg [.int .i64 i,.int .i64 k,.int .i64 w,.bool (f==w)]]).length*32≤ag∧0<32:=sS (by simp;omega);simp only[hw,alw,IN,Wi,T0 hr1];by_cases hf:f>w
    ·by_cases hf2:f≤14400
     ·have L6:(A++[PV.agg [.int .i64 i,.int .i64 k,.int .i64 w,.bool (f==w)]]++[PV.agg [.int .i64 i,.int .i64 k,.int .i64 f,.bool true]]).length*32≤ag∧0<32:=sS (by simp;omega);have hit:xU w f i k=[SU i k w (f==w),SU i k f true]:=by simp_all[xU,acB,T0]
      simp only[hf,hf2,alB,cond_true,U,IT,T0 L6,hit];rw[alJ];rfl
     ·have hit:xU w f i k=[SU i k w (f==w)]:=by simp_all[xU,acB]
      simp only[hf,hf2,alB,alw,cond_true,U,IN,Wi,hit];rfl
    ·have hit:xU w f i k=[SU i k w (f==w)]:=by unfold xU;grind
     simp only[hf,alw,cond_false,U,IN,Wi,hit];rfl
 simp[mq,acB]
theorem OZ(n:Nat)(W F:Nat→Nat→Int)(hn:n≤64):aX.run (mr aX) ((n:Int),dp n W,dp n F,0,[],())=some (.rs 4 (zL n (fun i k=>xU (W i k) (F i k) i k) n)):=by
 refine aK (fun i=>((n:Int),dp n W,dp n F,(i:Int),zL n (fun i k=>xU (W i k) (F i k) i k) i,())) n (fun i hi rec=>?_) (fun rec=>?_) (by unfold rounds;omega) rfl
 ·unfold mr;dsimp only;have hg:decide ((i:Int)<(n:Int))=true:=by simp;omega
  have hlen:=AJ (it:=fun i k=>xU (W i k) (F i k) i k) (fun i k=>Es _ _ i k) n i;have hb:2*n*i≤2*64*64:=amR (by omega) (by omega);rw[T0 hg,RA rec n i W F hn hi _ (by omega),B1,af (by omega)]
 simp[mr,acB]
def eE(n:Nat)(l:List Fp)(fr:Bool)(i j:Nat):Int:=((dk n (start lQ (counted fr l)) n i j:Nat):Int)
theorem RB(l:List Fp)(n:Nat)(hn:n≤64)(hl:l.length≤8192)(h:∀p∈l,p.a<n∧p.b<n):iL [.rs 4 (l.map Fp.pv),.int .i64 n]=some (.rs 4 (zL n (fun i k=>xU (eE n l false i k) (eE n l true i k) i k) n)):=by
 have e0:ah 4 (.rs 4 (l.map Fp.pv))=some (l.map Fp.pv):=by rfl
 have e1:∀es,ah 1 (.rs 1 es)=some es:=fun es=>by rfl
 simp only[iL,yX,e0,U,Fv,ED l n hn hl h false,ED l n hn hl h true,e1];simp_all[OZ,eE]
def PY(w f:Int)(i k:Nat):List PV:=if i=k then[]else(if 0<w∧w≤14400 then[SU i k w (f==w)]else[])++(if f≠w∧0<f∧f≤14400 then[SU i k f true]else[])
theorem iI.pos{w:Nat→Nat→Nat→Prop}(h:∀i j c,w i j c→1≤c){i j L:Nat}(hw:iI w i j L):1≤L:=by
 cases hw with
 |Fq e=>exact h _ _ _ e
 |snoc _ e=>have:=h _ _ _ e;omega
def acn(M:Nat)(d w:Int):Prop:=(d= -1∧w=(lQ:Int))∨(d=w∧1≤w∧w≤M)
theorem agZ{M:Nat}(hM:M<lQ){d0 d1 w f:Int}(h0:acn M d0 w)(h1:acn M d1 f)(h10:d1≠-1→d0≠-1∧d0≤d1)(i k:Nat):PY d0 d1 i k=xU w f i k:=by
 unfold PY xU;by_cases K5:i=k
 ·simp_all
 ·rw[acB K5];have hM:(M:Int)<1099511627776:=by grind
  have agD:((lQ:Nat):Int)=1099511627776:=rfl;rw[acn,agD]at h0 h1;rcases h0 with⟨e0,w0⟩|⟨e0,w1,w2⟩
  ·simp_all
  ·subst e0;rcases h1 with⟨e1,f0⟩|⟨e1,f1,f2⟩
   ·by_cases hw:d0≤14400
    ·have b1:(d1==d0)=false:=by grind
     have b2:(f==d0)=false:=by grind
     grind
    simp_all
   grind
theorem aco{l:List Fp}{n B:Nat}(hn:n≤64)(hB:B≤1073741824)(h:∀p∈l,p.a<n∧p.b<n∧1≤p.c∧p.c≤B)(fr:Bool){i k:Nat}(hi:i<n)(hk:k<n)(K5:i≠k){d:Int}(hd:Ry (counted fr l) (B*n) i k d):acn (B*n) d (eE n l fr i k):=by
 have hE:∀y∈counted fr l,y.f<n∧y.t<n∧1≤y.c:=fun y hy=>by obtain⟨p,hp,rfl⟩:=rK hy;obtain⟨a,b,c,_⟩:=h p hp;exact⟨a,b,c⟩
 have hM:B*n<lQ:=by have:B*n≤1073741824*64:=amR hB hn;grind
 rcases ack (inf:=lQ) (fun y hy=>⟨(hE y hy).1,(hE y hy).2.1⟩) hM hi hk K5 hd with⟨e1,e2⟩|⟨e1,e2⟩
 ·exact .inl ⟨e1,by unfold eE;omega⟩
 ·refine .inr ⟨e1,?_,by unfold eE;omega⟩;rcases hd with⟨e,_⟩|⟨L,e,_,hr,_⟩
  ·omega
  ·have:1≤L:=by
    rcases hr with⟨h,_⟩|hw
    ·omega
    ·exact hw.pos fun a b c hc=>(hE _ hc).2.2
   unfold eE;omega
theorem acp{l:List Fp}{M i k:Nat}{d0 d1:Int}(h0:Ry (counted false l) M i k d0)(h1:Ry (counted true l) M i k d1)(cC:d1≠-1):d0≠-1∧d0≤d1:=by
 have sub:∀y,y∈counted true l→y∈counted false l:=fun y hy=>by unfold counted at hy⊢;grind
 rcases h1 with⟨e,_⟩|⟨L1,e1,_,r1,_⟩
 ·omega
 ·have r:=r1.mem sub;rcases h0 with⟨_,h⟩|⟨L0,e0,_,_,m0⟩
  ·exact absurd r (h L1)
  simp_all
theorem Td(w f:Int)(i k:Nat):(PY w f i k).length≤2:=by grind [PY,List.length_append]
theorem VX(Er:TY8→Option PV)(n i:Nat)(W F:Nat→Nat→Int)(hn:n≤64)(hi:i<n)(acc:List PV)(agH:acc.length≤8192):aX.run (hZ aX Er) (dp n W,dp n F,(i:Int),(n:Int),(i:Int),zz n (W i),(n:Int),0,acc,())=Er (dp n W,dp n F,(n:Int),IntKind.i64.wrap ((i:Int)+1),acc++wJ n (fun i k=>PY (W i k) (F i k) i k) i,()):=by
 refine aK (fun k=>(dp n W,dp n F,(i:Int),(n:Int),(i:Int),zz n (W i),(n:Int),(k:Int),acc++wJ k (fun i k=>PY (W i k) (F i k) i k) i,())) n (fun k hk rec=>?_) (fun rec=>?_) (by unfold rounds;omega) (by simp[wJ])
 ·unfold hZ;dsimp only;have hg:decide ((k:Int)<(n:Int))=true:=by simp;omega
  rw[BZ];have hlen:=AH (it:=fun i k=>PY (W i k) (F i k) i k) (fun i k=>Td _ _ i k) i k;generalize hA:acc++wJ k (fun i k=>PY (W i k) (F i k) i k) i=A;have hAl:A.length≤8192+128:=by grind
  rw[←alJ,hA];simp only[hg,IT,ab,Fx _ hk,B0 _ hi,U,ab2,cI,Fv,af (show k<9223372036854775807 by omega)];generalize W i k=w;generalize F i k=f;by_cases K5:i=k
  ·simp_all[PY,T0,IT,alO]
  ·have hb:((i:Int)==(k:Int))=false:=by grind
   have hand:∀x:Int,(bif decide (x>0)then some (decide (x≤14400))else some false)=some (decide (0<x∧x≤14400)):=fun x=>by grind
   have hr1:(A++[PV.agg [.int .i64 i,.int .i64 k,.int .i64 w,.bool (f==w)]]).length*32≤ag∧0<32:=sS (by simp;omega);have L6:(A++[PV.agg [.int .i64 i,.int .i64 k,.int .i64 w,.bool (f==w)]]++[PV.agg [.int .i64 i,.int .i64 k,.int .i64 f,.bool true]]).length*32≤ag∧0<32:=sS (by simp;omega);have hr3:(A++[PV.agg [.int .i64 i,.int .i64 k,.int .i64 f,.bool true]]).length*32≤ag∧0<32:=sS (by simp;omega);have cC:(f !=w)=decide (f≠w):=by grind
   have hit:PY w f i k=(if 0<w∧w≤14400 then[SU i k w (f==w)]else[])++(if f≠w∧0<f∧f≤14400 then[SU i k f true]else[]):=acB K5;simp only[hb,IN,Wi,hand,U,cC,AT,hit,T0 hr1,T0 L6,T0 hr3];by_cases h1:0<w∧w≤14400
   ·by_cases h2:f≠w
    ·by_cases h3:0<f∧f≤14400
     ·rw[T0 h1,T0 h2,T0 h3,T0 h1,T0 ⟨h2,h3⟩,alJ];rfl
     ·rw[T0 h1,T0 h2,acB h3,T0 h1,acB (fun h=>h3 h.2)];rfl
    ·rw[T0 h1,acB h2,T0 h1,acB (fun h=>h2 h.1)];rfl
   ·by_cases h2:f≠w
    ·by_cases h3:0<f∧f≤14400
     ·rw[acB h1,T0 h2,T0 h3,acB h1,T0 ⟨h2,h3⟩];rfl
     grind
    grind
 simp[hZ,acB]
theorem RC(n:Nat)(W F:Nat→Nat→Int)(hn:n≤64){es':List PV}(hs:Az 4 (fun c a b=>cw [a,b]) (zL n (fun i k=>PY (W i k) (F i k) i k) n)=some es'):aX.run (ic aX) (dp n W,dp n F,(n:Int),0,[],())=some (.rs 4 es'):=by
 have hlen:∀i,i≤n→(zL n (fun i k=>PY (W i k) (F i k) i k) i).length≤8192:=fun i hi=>by have h1:=AJ (it:=fun i k=>PY (W i k) (F i k) i k) (fun i k=>Td _ _ i k) n i;have hb:2*n*i≤2*64*64:=amR (by omega) (by omega);omega
 refine aK (fun i=>(dp n W,dp n F,(n:Int),(i:Int),zL n (fun i k=>PY (W i k) (F i k) i k) i,())) n (fun i hi rec=>?_) (fun rec=>?_) (by unfold rounds;omega) rfl
 ·unfold ic;dsimp only;have hg:decide ((i:Int)<(n:Int))=true:=by simp;omega
  have hrl:((zz n (W i)).length:Int)=(n:Int):=by simp[zz]
  rw[T0 hg,ab,B0 _ hi,U,ab2,U,hrl,VX rec n i W F hn hi _ (hlen i (by omega)),B1,af (by omega)]
 ·unfold ic;dsimp only;have h:=hlen n (alz _);rw[acB (by simp),T0 (by(first|refine⟨rfl,?_,rfl⟩|refine⟨rfl,?_⟩);unfold ag;omega),hs];rfl
def kI:PV→Int
 |.int _ n=>n
 |_=>0
def c3(x y:Int):Int:=if x<y then-1 else if x>y then 1 else 0
def or3(a b c:Int):Int:=if a≠0 then a else if b≠0 then b else c
def cfp(a b:List PV):Int:=or3 (c3 (kI (a.getD 0 .bad)) (kI (b.getD 0 .bad))) (c3 (kI (a.getD 1 .bad)) (kI (b.getD 1 .bad))) (c3 (kI (a.getD 2 .bad)) (kI (b.getD 2 .bad)))
theorem RD(x y:Int):fe [.int .i64 x,.int .i64 y]=some (.int .i64 (c3 x y)):=by
 have h:∀z:Int,¬(z !=z)=true:=fun z=>by simp
 simp only[fe,sj,Fv,U,acB (h x),acB (h y),AT];unfold c3;grind
theorem ag0(a b c:Int):tc [.rs 1 [.int .i64 a,.int .i64 b,.int .i64 c]]=some (.int .i64 (or3 a b c)):=by
 have e0:ah 1 (.rs 1 [.int .i64 a,.int .i64 b,.int .i64 c])=some [.int .i64 a,.int .i64 b,.int .i64 c]:=by rfl
 simp only[tc,Dm,e0,U];obtain⟨es,Nf⟩:∃es,es=[PV.int .i64 a,.int .i64 b,.int .i64 c]:=⟨_,rfl⟩;have hl:((es.length:Nat):Int)=3:=by rw[Nf];rfl
 rw[←Nf];have hb:∀(k:Nat)(x:Int),es[k]?=some (.int .i64 x)→k<3→∀rec,eN (0,es,((es.length:Nat):Int),(k:Int),()) rec=if x≠0 then some (.int .i64 x)else rec (0,es,((es.length:Nat):Int),((k+1:Nat):Int),()):=fun k x hx hk rec=>by
  unfold eN;dsimp only;have hg:decide ((k:Int)<((es.length:Nat):Int))=true:=by rw[hl];simp;omega
  rw[T0 hg,ab,hx,U,cI,Fv,U,af (by omega)];simp
 have he:∀rec,eN (0,es,((es.length:Nat):Int),((3:Nat):Int),()) rec=some (.int .i64 0):=fun rec=>by unfold eN;simp_all
 have hN:rounds=18446744073709551612+1+1+1+1:=rfl;rw[vC,hN];generalize 18446744073709551612=N;show eN (0,es,((es.length:Nat):Int),((0:Nat):Int),()) _=_;rw[hb 0 a (by rw[Nf];rfl) (by omega)];unfold or3;by_cases h1:a≠0
 ·simp_all
 ·rw[acB h1,acB h1];show eN (0,es,((es.length:Nat):Int),((1:Nat):Int),()) _=_;rw[hb 1 b (by rw[Nf];rfl) (by omega)];by_cases h2:b≠0
  ·simp_all
  ·rw[acB h2,acB h2];show eN (0,es,((es.length:Nat):Int),((2:Nat):Int),()) _=_;rw[hb 2 c (by rw[Nf];rfl) (by omega)];by_cases h3:c≠0
   ·rw[T0 h3]
   ·rw[acB h3];show eN (0,es,((es.length:Nat):Int),((3:Nat):Int),()) _=_;simp_all
def Mi(i k:Nat)(s:Int)(b:Bool):List PV:=[.int .i64 i,.int .i64 k,.int .i64 s,.bool b]
theorem Zc(i k:Nat)(s:Int)(b:Bool)(i' k':Nat)(s':Int)(b':Bool):cw [Cc (Mi i k s b),Cc (Mi i' k' s' b')]=some (.int .i64 (cfp (Mi i k s b) (Mi i' k' s' b'))):=by have a:∀(w x y z:PV),asAgg 4 (.agg [w,x,y,z])=some ():=fun _ _ _ _=>rfl;have a0:∀(w x y z:PV),cell (.agg [w,x,y,z]) 0=w:=fun _ _ _ _=>rfl;have a1:∀(w x y z:PV),cell (.agg [w,x,y,z]) 1=x:=fun _ _ _ _=>rfl;have a2:∀(w x y z:PV),cell (.agg [w,x,y,z]) 2=y:=fun _ _ _ _=>rfl;have a3:∀(w x y z:PV),cell (.agg [w,x,y,z]) 3=z:=fun _ _ _ _=>rfl;simp only[cw,nb,Cc,Mi,a,a0,a1,a2,a3,Fv,asBool,U,RD,ag0];rfl
theorem Zd(x y:Int):(c3 x y<0↔x<y)∧(c3 x y=0↔x=y):=by grind [c3]
theorem FJ(i k:Nat)(s:Int)(b:Bool)(i' k':Nat)(s':Int)(b':Bool):cfp (Mi i k s b) (Mi i' k' s' b')<0↔i<i'∨(i=i'∧(k<k'∨(k=k'∧s<s'))):=by show or3 (c3 (i:Int) (i':Int)) (c3 (k:Int) (k':Int)) (c3 s s')<0↔_;have h1:=Zd (i:Int) (i':Int);grind [Zd,or3]
def IsF(e:List PV):Prop:=∃i k s b,e=Mi i k s b
variable{ns:List (List PV)}
theorem RE(h:ns.Pairwise fun a b=>cfp a b<0):∀a∈ns,∀b∈ns,¬cfp a b<0→¬cfp b a<0→a=b:=by
 induction h with
 |nil=>simp
 | @cons x l hx _ ih=>grind
theorem O0(hF:∀e∈ns,IsF e)(h:ns.Pairwise fun a b=>cfp a b<0):kQ 4 (fun c a b=>cw [a,b]) ns ns cfp where
 len a ha:=by obtain⟨i,k,s,b,rfl⟩:=hF a ha;rfl
 Xt a ha p hp:=by obtain⟨i,k,s,b,rfl⟩:=hF a ha;simp only[Mi,alq,amw,an3]at hp;rcases hp with rfl|rfl|rfl|rfl<;>rfl
 perm:=List.Perm.refl _
 reads c _ _ a ha b hb:=by obtain⟨i,k,s,q,rfl⟩:=hF a ha;obtain⟨i',k',s',q',rfl⟩:=hF b hb;exact Zc ..
 irrefl a ha:=by obtain⟨i,k,s,q,rfl⟩:=hF a ha;rw[FJ];omega
 trans a ha b hb c hc h1 h2:=by obtain⟨i,k,s,q,rfl⟩:=hF a ha;obtain⟨i',k',s',q',rfl⟩:=hF b hb;obtain⟨i2,k2,s2,q2,rfl⟩:=hF c hc;rw[FJ]at*;omega
 total:=RE h
 sorted:=h.imp_of_mem fun{a b}ha hb sX=>by obtain⟨i,k,s,q,rfl⟩:=hF a ha;obtain⟨i',k',s',q',rfl⟩:=hF b hb;rw[FJ]at*;omega
def Oe(w f:Int)(i k:Nat):List (List PV):=if i=k∨w>14400 then[]else Mi i k w (f==w)::(if f>w∧f≤14400 then[Mi i k f true]else[])
theorem acq(w f:Int)(i k:Nat):(Oe w f i k).map Cc=xU w f i k:=by
 unfold Oe xU;split
 ·rfl
 ·split<;>rfl
def zJ(n:Nat)(W F:Nat→Nat→Int):List (List PV):=(List.range n).flatMap fun i=>(List.range n).flatMap fun k=>Oe (W i k) (F i k) i k
theorem B2(n:Nat)(W F:Nat→Nat→Int):eS (zJ n W F)=zL n (fun i k=>xU (W i k) (F i k) i k) n:=by unfold eS zJ zL wJ;rw[List.map_flatMap];congr 1;funext i;rw[List.map_flatMap];congr 1;funext k;exact acq ..
theorem BW{w f:Int}{i k:Nat}{e:List PV}(h:e∈Oe w f i k):∃s b,e=Mi i k s b:=by unfold Oe at h;grind
theorem IV(n:Nat)(W F:Nat→Nat→Int):∀e∈zJ n W F,IsF e:=fun e h=>by obtain⟨i,_,h⟩:=alS.1 h;obtain⟨k,_,h⟩:=alS.1 h;obtain⟨s,b,rfl⟩:=BW h;exact⟨i,k,s,b,rfl⟩
theorem O1(n:Nat)(W F:Nat→Nat→Int):(zJ n W F).Pairwise fun a b=>cfp a b<0:=by
 unfold zJ;rw[amu];refine⟨fun i _=>?_,List.pairwise_lt_range.imp fun{i i'}UD x hx y hy=>?_⟩
 ·rw[amu];refine⟨fun k _=>?_,List.pairwise_lt_range.imp fun{k k'}vv x hx y hy=>?_⟩
  ·unfold Oe;split
   ·simp
   grind [FJ]
  ·obtain⟨s,b,rfl⟩:=BW hx;obtain⟨s',b',rfl⟩:=BW hy;rw[FJ];omega
 ·obtain⟨k,_,hx⟩:=alS.1 hx;obtain⟨k',_,hy⟩:=alS.1 hy;obtain⟨s,b,rfl⟩:=BW hx;obtain⟨s',b',rfl⟩:=BW hy;rw[FJ];omega
theorem Ri(l:List Fp)(n:Nat)(hn:n≤64)(hl:l.length≤8192)(h:∀p∈l,p.a<n∧p.b<n∧1≤p.c∧p.c≤14400):eG [.rs 4 (l.map Fp.pv),.int .i64 n]=some (.rs 4 (eS (zJ n (eE n l false) (eE n l true))))∧iL [.rs 4 (l.map Fp.pv),.int .i64 n]=some (.rs 4 (eS (zJ n (eE n l false) (eE n l true)))):=by
 have hr:=RB l n hn hl fun p hp=>⟨(h p hp).1,(h p hp).2.1⟩;rw[←B2]at hr;refine⟨?_,hr⟩;have hB:(14400:Nat)≤1073741824:=by omega
 obtain⟨D0,d0,e0⟩:=Tb l n 14400 hn hl hB (fun p hp=>⟨(h p hp).1,(h p hp).2.1,(h p hp).2.2.2⟩) false;obtain⟨D1,d1,e1⟩:=Tb l n 14400 hn hl hB (fun p hp=>⟨(h p hp).1,(h p hp).2.1,(h p hp).2.2.2⟩) true;have hM:14400*n<lQ:=by grind
 have QB:zL n (fun i k=>PY (D0 i k) (D1 i k) i k) n=eS (zJ n (eE n l false) (eE n l true)):=by
  rw[B2];unfold zL wJ;rw[amF,amF];congr 1;apply alQ;intro i hi;rw[amF,amF];congr 1;apply alQ;intro k hk;have hi:=alI.1 hi;have hk:=alI.1 hk;dsimp only;by_cases K5:i=k
  ·simp_all[PY,T0,xU,eE]
  grind [agZ,aco,acp]
 have a0:ah 4 (.rs 4 (l.map Fp.pv))=some (l.map Fp.pv):=by rfl
 have a1:∀es,ah 1 (.rs 1 es)=some es:=fun es=>by rfl
 have hlen:((dp n D0).length:Int)=(n:Int):=by simp[dp]
 simp only[eG,qm,a0,Fv,U,e0,e1,a1,hlen];exact RC n D0 D1 hn (by rw[QB];exact Vd (O0 (IV _ _ _) (O1 _ _ _)))
end Go.Ab.Nw
