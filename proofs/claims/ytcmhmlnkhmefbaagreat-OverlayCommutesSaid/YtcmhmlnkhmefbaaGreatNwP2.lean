import Derived.Test.YtcmhmlnkhmefbaaGreatNwP1
namespace Go.Ab.Nw
set_option maxRecDepth 100000
set_option linter.unusedVariables false
set_option linter.unusedSimpArgs false
def KZ(E:List Ed)(M:Nat)(s v:Nat)(d:Int):Prop:=(d= -1∧∀L,¬E9 E s v L)∨∃L:Nat,d=L∧L≤M∧E9 E s v L∧∀L',E9 E s v L'→L≤L'
theorem KZ.unique{E:List Ed}{M M' s v:Nat}{d d':Int}(h:KZ E M s v d)(h':KZ E M' s v d'):d=d':=by
 rcases h with⟨e,h⟩|⟨L,e,_,h1,h2⟩
 ·rcases h' with⟨e',_⟩|⟨L',_,_,MF,_⟩
  ·rw[e,e']
  ·exact absurd MF (h L')
 ·rcases h' with⟨_,h'⟩|⟨L',e',_,MF,Oe⟩
  ·exact absurd h1 (h' L)
  ·rw[e,e',Nat.le_antisymm (h2 _ MF) (Oe _ h1)]
theorem E9.mem{E E':List Ed}(h:∀y,y∈E→y∈E'){s v L:Nat}(hr:E9 E s v L):E9 E' s v L:=by
 rcases hr with hr|hr
 ·exact .inl hr
 ·exact .inr (hr.mono fun i j c hc=>h _ hc)
theorem KZ.mem{E E':List Ed}(h:∀y,y∈E↔y∈E'){M s v:Nat}{d:Int}(hd:KZ E M s v d):KZ E' M s v d:=by
 rcases hd with⟨e,h1⟩|⟨L,e,hM,h1,h2⟩
 ·exact .inl ⟨e,fun L hL=>h1 L (hL.mem fun y hy=>(h y).2 hy)⟩
 ·exact .inr ⟨L,e,hM,h1.mem fun y hy=>(h y).1 hy,fun L' hL=>h2 L' (hL.mem fun y hy=>(h y).2 hy)⟩
def rE(n:Nat)(D:Nat→Int):List PV:=(List.range n).map fun v=>.int .i64 (D v)
def eR(n:Nat)(D:Nat→Nat→Int):List PV:=(List.range n).map fun s=>.rs 1 (rE n (D s))
variable{D:Nat→Nat→Int}
theorem Hv{n:Nat}{D':Nat→Nat→Int}(h:∀s v,s<n→v<n→D s v=D' s v):eR n D=eR n D':=by unfold eR;apply List.map_congr_left;intro s hs;unfold rE;congr 1;apply List.map_congr_left;intro v hv;rw[h s v (List.mem_range.1 hs) (List.mem_range.1 hv)]
theorem Se(E:List Ed)(n B:Nat)(hn:n≤64)(hE:E.length≤4096)(hB:B≤1073741824)(h:∀y∈E,y.f<n∧y.t<n∧y.c≤B):∃D:Nat→Nat→Int,(∀s v,s<n→v<n→KZ E (B*n) s v (D s v))∧dR [.int .i64 n,.rs 3 (E.map Ed.pv)]=some (.bm [.rs 1 (eR n D),.int .i64 0]):=by
 have h':∀y∈E,y.f<n∧y.t<n∧y.c≤1073741824:=fun y hy=>⟨(h y hy).1,(h y hy).2.1,by have:=(h y hy).2.2;omega⟩;have hG:=Sd E n hn hE h';have each:∀s,∃o:mb,s<n→(∃pu,DI E n s B o pu [])∧dq [.int .i64 n,.rm 3 ((DU (vf E)).map fun x=>x.1) ((DU (vf E)).map fun x=>x.2.lV),.int .i64 s]=some (.rs 3 (dL n o)):=fun s=>by
  by_cases hs:s<n
  ·obtain⟨o,pu,h1,h2⟩:=Pg hG hs hB (fun y hy=>(h y hy).2.2) hn;exact⟨o,fun _=>⟨⟨pu,h1⟩,h2⟩⟩
  ·exact⟨fun _=>none,fun h=>absurd h hs⟩
 obtain⟨o,ho⟩:=Classical.axiomOfChoice each;refine⟨fun s v=>Fc (o s v),fun s v hs hv=>?_,?_⟩
 ·obtain⟨⟨pu,hI⟩,_⟩:=ho s hs;have:=hI.done h hv;cases hl:o s v with
  |none=>rw[hl]at this;exact .inl ⟨by dsimp only;rw[hl];rfl,this⟩
  |some p=>obtain⟨L,e⟩:=p;rw[hl]at this;exact .inr ⟨L,by dsimp only;rw[hl];rfl,this.1,this.2.1,this.2.2⟩
 ·have e0:ab 3 (.rs 3 (E.map Ed.pv))=some (E.map Ed.pv):=by simp[ab]
  have ep:(0:Int)≤(n:Int)∧(n:Int)≤(n:Int)∧n*24≤aa∧0<24∧0<1:=by refine⟨by omega,by omega,?_,by omega,by omega⟩;unfold aa;omega
  have hz:((0:Int) !=0)=false:=rfl;simp only[dR,sl,CH,e0,U,Sb E n hn hE h',hz,Bool.false_eq_true,if_false,Fg E hE,dP,if_true,Int.toNat_natCast,if_pos ep,List.length_replicate];refine bK (fun k=>((n:Int),PV.rm 3 ((DU (vf E)).map fun x=>x.1) ((DU (vf E)).map fun x=>x.2.lV),(n:Int),(k:Int),qd n k (fun s=>.rs 1 (rE n fun v=>Fc (o s v))) (.rs 0 []),())) n (fun k hk rec=>?_) (fun rec=>?_) (by unfold rounds;omega) ?_
  ·unfold jR;dsimp only;have hg:decide ((k:Int)<(n:Int))=true:=by simp;omega
   have e3:ab 3 (.rs 3 (dL n (o k)))=some (dL n (o k)):=by simp[ab]
   have e1:ab 1 (.rs 1 ((List.range n).map fun v=>PV.int .i64 (Fc (o k v))))=some ((List.range n).map fun v=>PV.int .i64 (Fc (o k v))):=by simp[ab]
   rw[if_pos hg,(ho k hk).2,U,e3,U,KY n hn,U,e1,U,if_pos (Az (by rw[Hr];exact hk)),Int.toNat_natCast,Hs hk,U,al (by omega)];have:=Ht (F:=fun s=>PV.rs 1 (rE n fun v=>Fc (o s v))) (z:=.rs 0 []) hk;unfold rE at this⊢;rw[this]
  ·unfold jR;dsimp only;rw[if_neg (by simp),Hu];rfl
  ·rw[DT];rfl
theorem Sf(E E':List Ed)(n B:Nat)(hn:n≤64)(hE:E'.length≤4096)(hB:B≤1073741824)(h:∀y∈E,y.f<n∧y.t<n∧y.c≤B)(he:∀y,y∈E↔y∈E')(hD:∀s v,s<n→v<n→KZ E (B*n) s v (D s v)):dR [.int .i64 n,.rs 3 (E'.map Ed.pv)]=some (.bm [.rs 1 (eR n D),.int .i64 0]):=by obtain⟨D',d1,d2⟩:=Se E' n B hn hE hB fun y hy=>h y ((he y).2 hy);rw[d2,Hv fun s v hs hv=>((hD s v hs hv).mem he).unique (d1 s v hs hv)]
end Go.Ab.Nw
namespace Go.Ab.Nw
set_option maxRecDepth 100000
set_option linter.unusedVariables false
set_option linter.unusedSimpArgs false
structure Fp where
 a:Nat
 b:Nat
 c:Nat
 free:Bool
 deriving DecidableEq
def Fp.pv(p:Fp):PV:=.agg [.int .i64 p.a,.int .i64 p.b,.int .i64 p.c,.bool p.free]
theorem fp0(p:Fp):cell p.pv 0=.int .i64 p.a:=rfl
theorem fp1(p:Fp):cell p.pv 1=.int .i64 p.b:=rfl
theorem fp2(p:Fp):cell p.pv 2=.int .i64 p.c:=rfl
theorem fp3(p:Fp):cell p.pv 3=.bool p.free:=rfl
def Fp.ed(p:Fp):Ed:=⟨p.a,p.b,p.c⟩
def wo(z:Ed):List Ed→List Ed
 |[]=>[z]
 |e::r=>if z.f=e.f∧z.t=e.t then z::r else e::wo z r
def xo(a b:Nat):List Ed→Option Nat
 |[]=>none
 |e::r=>if a=e.f∧b=e.t then some e.c else xo a b r
theorem Cl(a b:Nat)(z:Ed):∀m,xo a b (wo z m)=if a=z.f∧b=z.t then some z.c else xo a b m
 |[]=>rfl
 |e::r=>by
  simp only[wo];by_cases h:z.f=e.f∧z.t=e.t
  ·rw[if_pos h];simp only[xo];by_cases h2:a=z.f∧b=z.t
   ·rw[if_pos h2,if_pos h2]
   ·rw[if_neg h2,if_neg h2,if_neg (by rw[←h.1,←h.2];exact h2)]
  ·rw[if_neg h];simp only[xo];by_cases h2:a=e.f∧b=e.t
   ·rw[if_pos h2,if_neg (by rw[h2.1,h2.2];rintro⟨x,y⟩;exact h ⟨x.symm,y.symm⟩),if_pos h2]
   ·rw[if_neg h2,if_neg h2];exact Cl a b z r
theorem Hw(z e:Ed):∀m,e∈wo z m→e=z∨e∈m
 |[],h=>by simp[wo]at h;exact .inl h
 |x::r,h=>by
  simp only[wo]at h;split at h
  ·rcases List.mem_cons.1 h with h|h
   ·exact .inl h
   ·exact .inr (by simp[h])
  ·rcases List.mem_cons.1 h with h|h
   ·exact .inr (by simp[h])
   ·rcases Hw z e r h with h|h
    ·exact .inl h
    ·exact .inr (by simp[h])
theorem Hx{a b x:Nat}:∀{m:List Ed},xo a b m=some x→∃e∈m,e.f=a∧e.t=b∧e.c=x
 |[],h=>by cases h
 |e::r,h=>by
  simp only[xo]at h;split at h
  ·rename_i h2;cases h;exact⟨e,by simp,h2.1.symm,h2.2.symm,rfl⟩
  ·obtain⟨e',h1,h2⟩:=Hx h;exact⟨e',by simp[h1],h2⟩
theorem Hy(z:Ed):∀m,(wo z m).length≤m.length+1
 |[]=>by simp[wo]
 |e::r=>by
  simp only[wo];split
  ·simp
  ·have:=Hy z r;simp;omega
def Np(fr:Bool)(m:List Ed)(p:Fp):List Ed:=if(fr&& !p.free)=true then m else match xo p.a p.b m with
 |none=>wo p.ed m
 |some x=>if p.c<x then wo p.ed m else m
def kn(fr:Bool)(l:List Fp):List Ed:=l.foldl (Np fr) []
theorem DY(fr:Bool)(l:List Fp)(p:Fp):kn fr (l++[p])=Np fr (kn fr l) p:=by simp[kn]
def counted(fr:Bool)(l:List Fp):List Ed:=(l.filter fun p=> !(fr&& !p.free)).map Fp.ed
theorem Nq(fr:Bool)(l:List Fp):(∀e∈kn fr l,e∈counted fr l)∧(∀e∈counted fr l,∃x,xo e.f e.t (kn fr l)=some x∧x≤e.c)∧(kn fr l).length≤l.length:=by
 rw[←List.reverse_reverse l];induction l.reverse with
 |nil=>exact⟨(fun e h=>by simp[kn]at h),(fun e h=>by simp[counted]at h),Nat.le_refl _⟩
 |cons p l ih=>
  rw[List.reverse_cons,DY];obtain⟨i1,i2,i3⟩:=ih;have hc:counted fr (l.reverse++[p])=counted fr l.reverse++(if(fr&& !p.free)=true then[]else[p.ed]):=by
   unfold counted;rw[List.filter_append,List.map_append];congr 1;cases hb:(fr&& !p.free)with
   |true=>simp only[List.filter_cons,hb,Bool.not_true,Bool.false_eq_true,if_false,List.filter_nil,List.map_nil,if_true]
   |false=>simp only[List.filter_cons,hb,Bool.not_false,Bool.false_eq_true,if_false,List.filter_nil,List.map_nil,List.map_cons,if_true]
  rw[hc];unfold Np;by_cases h:(fr&& !p.free)=true
  ·rw[if_pos h,if_pos h];exact⟨fun e he=>by simpa using i1 e he,fun e he=>i2 e (by simpa using he),by simp at i3⊢;omega⟩
  ·rw[if_neg h,if_neg h];have put:(∀e∈wo p.ed (kn fr l.reverse),e∈counted fr l.reverse++[p.ed]):=fun e he=>by
    rcases Hw _ _ _ he with rfl|he
    ·simp
    ·exact List.mem_append_left _ (i1 e he)
   have len:(wo p.ed (kn fr l.reverse)).length≤(l.reverse++[p]).length:=by have:=Hy p.ed (kn fr l.reverse);simp at i3⊢;omega
   cases hb:xo p.a p.b (kn fr l.reverse)with
   |none=>
    refine⟨put,fun e he=>?_,len⟩;rw[Cl];by_cases hk:e.f=p.ed.f∧e.t=p.ed.t
    ·rw[if_pos hk];rcases List.mem_append.1 he with he|he
     ·obtain⟨x,h1,_⟩:=i2 e he;rw[hk.1,hk.2]at h1;rw[show p.ed.f=p.a from rfl,show p.ed.t=p.b from rfl,hb]at h1;cases h1
     ·simp at he;subst he;exact⟨_,rfl,Nat.le_refl _⟩
    ·rw[if_neg hk];rcases List.mem_append.1 he with he|he
     ·exact i2 e he
     ·simp at he;subst he;exact absurd ⟨rfl,rfl⟩ hk
   |some x=>
    dsimp only;by_cases hx:p.c<x
    ·rw[if_pos hx];refine⟨put,fun e he=>?_,len⟩;rw[Cl];by_cases hk:e.f=p.ed.f∧e.t=p.ed.t
     ·rw[if_pos hk];rcases List.mem_append.1 he with he|he
      ·obtain⟨y,h1,h2⟩:=i2 e he;rw[hk.1,hk.2,show p.ed.f=p.a from rfl,show p.ed.t=p.b from rfl,hb]at h1;cases h1;exact⟨_,rfl,by show p.c≤e.c;omega⟩
      ·simp at he;subst he;exact⟨_,rfl,Nat.le_refl _⟩
     ·rw[if_neg hk];rcases List.mem_append.1 he with he|he
      ·exact i2 e he
      ·simp at he;subst he;exact absurd ⟨rfl,rfl⟩ hk
    ·rw[if_neg hx];refine⟨fun e he=>List.mem_append_left _ (i1 e he),fun e he=>?_,by simp at i3⊢;omega⟩;rcases List.mem_append.1 he with he|he
     ·exact i2 e he
     ·simp at he;subst he;exact⟨x,hb,by show x≤p.c;omega⟩
def lC(e:Ed):PV×PV:=(.agg [.int .i64 e.f,.int .i64 e.t,.bool false],.int .i64 e.c)
theorem aaQ(a b c d:Nat):cA (PV.agg [.int .i64 a,.int .i64 b,.bool false]).cells (PV.agg [.int .i64 c,.int .i64 d,.bool false]).cells=decide (a=c∧b=d):=by
 have h:∀x y:Nat,((x:Int)==(y:Int))=decide (x=y):=fun x y=>by
  by_cases h:x=y
  ·simp[h]
  ·rw[decide_eq_false h,beq_eq_false_iff_ne];omega
 simp only[PV.cells,cA,peq,Bool.and_true,h,beq_self_eq_true,Bool.decide_and]
theorem Wg(a b:Nat):∀m:List Ed,dK (.agg [.int .i64 a,.int .i64 b,.bool false]) (.int .i64 0) (m.map lC)=.int .i64 (((xo a b m).getD 0:Nat):Int)∧sO (.agg [.int .i64 a,.int .i64 b,.bool false]) (m.map lC)=(xo a b m).isSome
 |[]=>⟨rfl,rfl⟩
 |e::r=>by
  obtain⟨h1,h2⟩:=Wg a b r;simp only[List.map_cons,lC,dK,sO,aaQ,xo];by_cases h:a=e.f∧b=e.t
  ·simp[h]
  ·simp only[h,decide_false,Bool.false_eq_true,if_false,Bool.false_or];exact⟨h1,h2⟩
theorem Ya(z:Ed):∀m:List Ed,eO (.agg [.int .i64 z.f,.int .i64 z.t,.bool false]) (.int .i64 z.c) (m.map lC)=(wo z m).map lC
 |[]=>rfl
 |e::r=>by
  have ih:=Ya z r;simp only[List.map_cons,eO,wo];rw[show(lC e)=(PV.agg [.int .i64 e.f,.int .i64 e.t,.bool false],PV.int .i64 e.c)from rfl];simp only[aaQ];by_cases h:z.f=e.f∧z.t=e.t
  ·simp[h,lC]
  ·simp only[h,decide_false,Bool.false_eq_true,if_false,List.map_cons,ih];rfl
theorem Bq{R:Type}{n:Nat}{g:Nat→Option R}{r:R}(hn:0<n)(h:∀i,i<n→g i=some r):pO n g=some r:=by unfold pO;have hh:∃r,∀i,i<n→g i=some r:=⟨r,h⟩;rw[dif_pos hh];have:=Classical.choose_spec hh 0 hn;rw[h 0 hn]at this;exact this.symm
theorem Ph{n:Nat}(hn:n≤64)(r:PV)(aaR:List Ed→Prop)(mV:∀acc,aaR acc→∃D,dR [.int .i64 n,.rs 3 (acc.map Ed.pv)]=some (.bm [.rs 1 D,.int .i64 0])∧r=.rs 1 D):∀(rem acc:List Ed)(N:Nat),rem.length<N→acc.length+rem.length≤4096→(∀l,(∀y,y∈l↔y∈acc∨y∈rem)→l.length=acc.length+rem.length→aaR l)→cE (eu ca) N ((n:Int),acc.map Ed.pv,rem.map lC,())=some r:=by
 intro rem;generalize hk:rem.length=k;induction k generalizing rem with
 |zero=>
  intro acc N hN hl hg;have:rem=[]:=List.eq_nil_of_length_eq_zero hk;subst this;obtain⟨N,rfl⟩:∃m,N=m+1:=⟨N-1,by omega⟩;simp only[cE];unfold eu;dsimp only;rw[if_pos (show(List.map lC []).isEmpty=true from rfl)];obtain⟨D,h1,h2⟩:=mV acc (hg acc (fun y=>by simp) (by simp));have e2:bW 2 (.bm [.rs 1 D,.int .i64 0])=some [.rs 1 D,.int .i64 0]:=rfl;have e3:ab 1 (.rs 1 D)=some D:=by simp[ab]
  rw[h1,U,e2,U];simp only[List.getD_cons_zero,List.getD_cons_succ,e3,U,CH];rw[h2]
 |succ k ih=>
  intro acc N hN hl hg;obtain⟨N,rfl⟩:∃m,N=m+1:=⟨N-1,by omega⟩;simp only[cE];generalize EL:cE (eu ca) N=rec;unfold eu;dsimp only
  have cS:¬(rem.map lC).isEmpty=true:=by cases rem with
   |nil=>simp at hk
   |cons _ _=>simp
  rw[if_neg cS];refine Bq (by simp;omega) fun i hi=>?_;have mW:i<rem.length:=by simpa using hi
  obtain⟨e,he⟩:∃e,rem[i]?=some e:=⟨_,List.getElem?_eq_getElem mW⟩;have CN:(rem.map lC)[i]?=some (lC e):=by rw[List.getElem?_map,he];rfl
  have ep:(acc.map Ed.pv++[PV.agg [.int .i64 e.f,.int .i64 e.t,.int .i64 e.c]]).length*24≤aa∧0<24:=by simp only[List.length_append,List.length_map,List.length_cons,List.length_nil];unfold aa;omega
  have Bf:acc.map Ed.pv++[PV.agg [.int .i64 e.f,.int .i64 e.t,.int .i64 e.c]]=(acc++[e]).map Ed.pv:=by simp[Ed.pv]
  have Yb:(rem.map lC).eraseIdx i=(rem.eraseIdx i).map lC:=by apply List.ext_getElem?;intro j;simp only[List.getElem?_eraseIdx,List.getElem?_map];split<;>rfl
  have hle:(rem.eraseIdx i).length=k:=by rw[List.length_eraseIdx];simp[mW];omega
  rw[CN,U];rw[Bf]at ep;simp only[lC,ag3,aaK,X8,CH,U,Bf,if_pos ep,Yb];rw[←EL];refine ih (rem.eraseIdx i) hle (acc++[e]) N (by omega) (by simp;omega) fun l Rz Gw=>hg l (fun y=>?_) (by rw[Gw];simp;omega);rw[Rz];have bO:y∈rem↔y=e∨y∈rem.eraseIdx i:=by
   rw[List.mem_eraseIdx_iff_getElem?];constructor
   ·intro hy;obtain⟨j,hj⟩:=List.getElem?_of_mem hy;by_cases Jk:j=i
    ·subst Jk;rw[he]at hj;exact .inl (Option.some.inj hj).symm
    ·exact .inr ⟨j,Jk,hj⟩
   ·rintro(rfl|⟨j,_,hj⟩)
    ·exact List.mem_of_getElem? he
    ·exact List.mem_of_getElem? hj
  rw[bO];simp only[List.mem_append,List.mem_singleton];constructor
  ·rintro((h|h)|h)
   ·exact .inl h
   ·exact .inr (.inl h)
   ·exact .inr (.inr h)
  ·rintro(h|h|h)
   ·exact .inl (.inl h)
   ·exact .inl (.inr h)
   ·exact .inr h
end Go.Ab.Nw
namespace Go.Ab.Nw
set_option maxRecDepth 100000
set_option linter.unusedVariables false
set_option linter.unusedSimpArgs false
theorem E9.leq{E E':List Ed}(h:∀e∈E,∃e'∈E',e'.f=e.f∧e'.t=e.t∧e'.c≤e.c){s v L:Nat}(hr:E9 E s v L):∃L',L'≤L∧E9 E' s v L':=by
 rcases hr with⟨h1,h2⟩|hr
 ·exact⟨L,Nat.le_refl _,.inl ⟨h1,h2⟩⟩
 ·obtain⟨L',l1,l2⟩:=hr.leq (w':=ew E') fun i j c hc=>by
   obtain⟨e',m,e1,e2,e3⟩:=h _ hc;refine⟨e'.c,e3,?_⟩;unfold ew;have:(⟨i,j,e'.c⟩:Ed)=e':=by have e1:e'.f=i:=e1;have e2:e'.t=j:=e2;rw[←e1,←e2]
   rw[this];exact m
  exact⟨L',l1,.inr l2⟩
theorem Sg{fr:Bool}{l:List Fp}{M s v:Nat}{d:Int}(h:KZ (kn fr l) M s v d):KZ (counted fr l) M s v d:=by
 obtain⟨b1,b2,_⟩:=Nq fr l;have low:∀{L},E9 (counted fr l) s v L→∃L',L'≤L∧E9 (kn fr l) s v L':=fun hr=>hr.leq fun e he=>by obtain⟨x,h1,h2⟩:=b2 e he;obtain⟨e',m,e1,e2,e3⟩:=Hx h1;exact⟨e',m,e1,e2,by omega⟩
 rcases h with⟨e,h1⟩|⟨L,e,hM,h1,h2⟩
 ·refine .inl ⟨e,fun L hL=>?_⟩;obtain⟨L',_,hL'⟩:=low hL;exact h1 L' hL'
 ·refine .inr ⟨L,e,hM,h1.mem b1,fun L' hL=>?_⟩;obtain⟨L'',l1,l2⟩:=low hL;exact Nat.le_trans (h2 L'' l2) l1
theorem ui{fr:Bool}{l:List Fp}{e:Ed}(h:e∈counted fr l):∃p∈l,p.ed=e:=by unfold counted at h;obtain⟨p,hp,rfl⟩:=List.mem_map.1 h;exact⟨p,(List.mem_filter.1 hp).1,rfl⟩
theorem Nr(l:List Fp)(n B:Nat)(hn:n≤64)(hl:l.length≤4096)(hB:B≤1073741824)(h:∀p∈l,p.a<n∧p.b<n∧p.c≤B)(fr:Bool):∃D:Nat→Nat→Int,(∀s v,s<n→v<n→KZ (counted fr l) (B*n) s v (D s v))∧cu [.rs 4 (l.map Fp.pv),.int .i64 n,.bool fr]=some (.rs 1 (eR n D)):=by
 obtain⟨b1,b2,b3⟩:=Nq fr l;have hbe:∀y∈kn fr l,y.f<n∧y.t<n∧y.c≤B:=fun y hy=>by obtain⟨p,hp,rfl⟩:=ui (b1 y hy);exact h p hp
 obtain⟨D,d1,d2⟩:=Se (kn fr l) n B hn (by omega) hB hbe;refine⟨D,fun s v hs hv=>Sg (d1 s v hs hv),?_⟩;have e0:ab 4 (.rs 4 (l.map Fp.pv))=some (l.map Fp.pv):=by simp[ab]
 simp only[cu,jY,e0,U,CH,asBool];refine bK (fun k=>((n:Int),fr,l.map Fp.pv,((l.map Fp.pv).length:Int),(k:Int),(kn fr (l.take k)).map lC,())) l.length (fun k hk rec=>?_) (fun rec=>?_) (by unfold rounds;omega) (by simp[kn])
 ·unfold ij;dsimp only;have hg:decide ((k:Int)<((l.map Fp.pv).length:Int))=true:=by simp;omega
  obtain⟨p,hp⟩:∃p,l[k]?=some p:=⟨_,List.getElem?_eq_getElem hk⟩;have CN:(l.map Fp.pv)[k]?=some p.pv:=by rw[List.getElem?_map,hp];rfl
  have htk:l.take (k+1)=l.take k++[p]:=by rw[List.take_add_one,hp];rfl
  have hr7:(bif fr then(asBool (cell p.pv 3)).bind fun b6=>some !b6 else some false)=some (fr&& !p.free):=by rw[fp3];cases fr<;>rfl
  obtain⟨g1,g2⟩:=Wg p.a p.b (kn fr (l.take k));rw[if_pos hg,ay,CN,U,hr7,U,al (by omega),htk,DY];unfold Np;by_cases hf:(fr&& !p.free)=true
  ·rw[if_pos hf,if_pos hf]
  ·rw[if_neg hf,if_neg hf];simp only[fp0,fp1,fp2,CH,U,g1,g2];cases hb:xo p.a p.b (kn fr (l.take k))with
   |none=>simp only[Option.isSome_none,Bool.not_false,cond_true,U,if_true];rw[show(p.c:Int)=((p.ed.c:Nat):Int)from rfl,show(p.a:Int)=((p.ed.f:Nat):Int)from rfl,show(p.b:Int)=((p.ed.t:Nat):Int)from rfl,Ya]
   |some x=>
    simp only[Option.isSome_some,Bool.not_true,cond_false,U,Option.getD_some];by_cases hx:p.c<x
    ·have hd:decide ((p.c:Int)<(x:Int))=true:=by simp;omega
     simp only[hd,if_true,if_pos hx];rw[show(p.c:Int)=((p.ed.c:Nat):Int)from rfl,show(p.a:Int)=((p.ed.f:Nat):Int)from rfl,show(p.b:Int)=((p.ed.t:Nat):Int)from rfl,Ya]
    ·have hd:decide ((p.c:Int)<(x:Int))=false:=by simp;omega
     simp only[hd,Bool.false_eq_true,if_false,if_neg hx]
 ·unfold ij;dsimp only;have Rz:((kn fr (l.take l.length)).map lC).length≤maxLen:=by
   rw[List.take_length,List.length_map];have:(4096:Nat)≤maxLen:=by decide
   omega
  have ep:(0:Int)≤0∧0≤((((kn fr (l.take l.length)).map lC).length:Nat):Int)∧((((kn fr (l.take l.length)).map lC).length:Nat):Int).toNat*24≤aa∧0<24∧0<3:=by refine⟨by omega,by omega,?_,by omega,by omega⟩;rw[Int.toNat_natCast,List.take_length,List.length_map];unfold aa;omega
  rw[if_neg (by simp),if_pos Rz,if_pos ep,List.take_length,kO];have hp:=Ph hn (.rs 1 (eR n D)) (fun acc=>(∀y,y∈kn fr l↔y∈acc)∧acc.length≤4096) (fun acc⟨h1,h2⟩=>⟨_,Sf (kn fr l) acc n B hn h2 hB hbe h1 d1,rfl⟩) (kn fr l) [] rounds (by unfold rounds;omega) (by simp;omega) (fun l' h1 h2=>⟨fun y=>by rw[h1];simp,by rw[h2];simp;omega⟩);exact hp
end Go.Ab.Nw
namespace Go.Ab.Nw
abbrev Mx:=Nat→Nat→Nat
def Fh(d:Mx)(i j x:Nat):Mx:=fun a b=>if a=i∧b=j then x else d a b
def dj(k i:Nat)(d:Mx):Nat→Mx
 |0=>d
 |j+1=>Fh (dj k i d j) i j (min (dj k i d j i j) (dj k i d j i k+dj k i d j k j))
def di(n k:Nat)(d:Mx):Nat→Mx
 |0=>d
 |i+1=>dj k i (di n k d i) n
def dk(n:Nat)(d:Mx):Nat→Mx
 |0=>d
 |k+1=>di n k (dk n d k) n
structure Pj(w:Nat→Nat→Nat→Prop)(inf n k i j:Nat)(d:Mx):Prop where
 fw:Fw w inf n d
 kF:∀a b,a<n→b<n→pg w k a b (d a b)
 new:∀a b,a<n→b<n→(a<i∨(a=i∧b<j))→pg w (k+1) a b (d a b)
variable {w:Nat→Nat→Nat→Prop} {inf n:Nat}
theorem pg.le{k i j x y:Nat}(h:pg w k i j x)(hy:y≤x):pg w k i j y:=fun L hL=>Nat.le_trans hy (h L hL)
theorem Pj.cell{k i j:Nat}{d:Mx}(h:Pj w inf n k i j d)(hi:i<n)(hj:j<n)(hk:k<n):Pj w inf n k i (j+1) (Fh d i j (min (d i j) (d i k+d k j))):=by
 obtain⟨h1,h2,h3⟩:=UW h.fw hi hj hk (x:=min (d i j) (d i k+d k j)) rfl (d':=Fh d i j (min (d i j) (d i k+d k j))) (fun a b=>rfl);refine⟨h1,fun a b ha hb=>(h.kF a b ha hb).le (h2 a b),fun a b ha hb hd=>?_⟩;by_cases e:a=i∧b=j
 ·obtain⟨rfl,rfl⟩:=e;exact h3 (h.kF _ _ ha hk) (h.kF _ _ hk hb) (h.kF _ _ ha hb)
 ·exact(h.new a b ha hb (by omega)).le (h2 a b)
theorem Pj.row{k i:Nat}{d:Mx}(h:Pj w inf n k i 0 d)(hi:i<n)(hk:k<n):∀j,j≤n→Pj w inf n k i j (dj k i d j)
 |0,_=>h
 |j+1,hj=>(Pj.row h hi hk j (by omega)).cell hi (by omega) hk
theorem Pj.rows{k:Nat}{d:Mx}(h:Pj w inf n k 0 0 d)(hk:k<n):∀i,i≤n→Pj w inf n k i 0 (di n k d i)
 |0,_=>h
 |i+1,hi=>by have:=(Pj.rows h hk i (by omega)).row (by omega) hk n (Nat.le_refl _);exact⟨this.fw,this.kF,fun a b ha hb hd=>this.new a b ha hb (by omega)⟩
structure Si(w:Nat→Nat→Nat→Prop)(inf n k:Nat)(d:Mx):Prop where
 fw:Fw w inf n d
 low:∀a b,a<n→b<n→pg w k a b (d a b)
theorem Si.rounds{d:Mx}(h:Si w inf n 0 d):∀k,k≤n→Si w inf n k (dk n d k)
 |0,_=>h
 |k+1,hk=>by have ih:=Si.rounds h k (by omega);have:=Pj.rows (k:=k) ⟨ih.fw,ih.low,fun a b ha hb hd=>by omega⟩ (by omega) n (Nat.le_refl _);exact⟨this.fw,fun a b ha hb=>this.new a b ha hb (.inl ha)⟩
def Ns(inf:Nat):Mx:=fun _ _=>inf
def lay(d:Mx)(e:Ed):Mx:=Fh d e.f e.t (min (d e.f e.t) e.c)
def start(inf:Nat)(E:List Ed):Mx:=E.foldl lay (Ns inf)
theorem Cm(inf:Nat)(E:List Ed)(e:Ed):start inf (E++[e])=lay (start inf E) e:=by simp[start]
theorem Sj(E:List Ed):(∀i j,start inf E i j≤inf)∧(∀i j,start inf E i j<inf→(⟨i,j,start inf E i j⟩:Ed)∈E)∧∀e∈E,start inf E e.f e.t≤e.c:=by
 rw[←List.reverse_reverse E];induction E.reverse with
 |nil=>exact⟨fun i j=>Nat.le_refl _,fun i j h=>by simp[start,Ns]at h,fun e h=>by cases h⟩
 |cons e l ih=>
  rw[List.reverse_cons,Cm];obtain⟨i1,i2,i3⟩:=ih;have hl:∀a b,lay (start inf l.reverse) e a b=if a=e.f∧b=e.t then min (start inf l.reverse e.f e.t) e.c else start inf l.reverse a b:=fun a b=>rfl;refine⟨fun a b=>?_,fun a b h=>?_,fun z hz=>?_⟩
  ·rw[hl];split
   ·have:=i1 e.f e.t;omega
   ·exact i1 a b
  ·rw[hl]at h⊢;split
   ·rename_i hk;rw[if_pos hk]at h;by_cases hm:start inf l.reverse e.f e.t≤e.c
    ·rw[show min (start inf l.reverse e.f e.t) e.c=start inf l.reverse e.f e.t by omega]at h⊢;rw[hk.1,hk.2];exact List.mem_append_left _ (i2 _ _ h)
    ·rw[show min (start inf l.reverse e.f e.t) e.c=e.c by omega,hk.1,hk.2];simp
   ·rename_i hk;rw[if_neg hk]at h;exact List.mem_append_left _ (i2 a b h)
  ·rw[hl];rcases List.mem_append.1 hz with hz|hz
   ·have:=i3 z hz;split
    ·rename_i hk;rw[hk.1,hk.2]at this;omega
    ·exact this
   ·simp at hz;subst hz;rw[if_pos ⟨rfl,rfl⟩];omega
theorem Cn(E:List Ed):Si (ew E) inf n 0 (start inf E):=by obtain⟨h1,h2,h3⟩:=Sj (inf:=inf) E;exact⟨⟨fun i j _ _=>h1 i j,fun i j _ _ h=>.Cj (h2 i j h)⟩,fun a b _ _ L hL=>h3 ⟨a,b,L⟩ hL⟩
theorem U3{E:List Ed}{M:Nat}(hE:∀y∈E,y.f<n∧y.t<n)(hM:M<inf){i j:Nat}(hi:i<n)(hj:j<n)(Gy:i≠j){D:Int}(hD:KZ E M i j D):(D= -1∧dk n (start inf E) n i j=inf)∨(D=(dk n (start inf E) n i j:Int)∧dk n (start inf E) n i j≤M):=by
 have hd:=(Cn (n:=n) (inf:=inf) E).rounds n (Nat.le_refl _);have rch:∀L,E9 E i j L↔js (ew E) i j L:=fun L=>⟨fun h=>by rcases h with⟨h,_⟩|h;exact absurd h.symm Gy;exact h,.inr⟩;have hs:=UX (w:=ew E) (fun a b c h=>(hE _ h).1) hd.fw hi hj (hd.low i j hi hj) (fun L Ug hw=>by
  rcases hD with⟨_,h⟩|⟨L',_,hle,h1,h2⟩
  ·exact absurd ((rch L).2 hw) (h L)
  ·have:=Ug L' ((rch L').1 h1);omega)
 rcases hD with⟨e,h⟩|⟨L',e,hle,h1,h2⟩
 ·left;refine⟨e,?_⟩;have agB:=hd.fw.top i j hi hj;by_cases br:dk n (start inf E) n i j<inf
  ·exact absurd ((rch _).2 (hd.fw.real i j hi hj br)) (h _)
  ·omega
 ·right;have:(if dk n (start inf E) n i j<inf then some (dk n (start inf E) n i j)else none)=some L':=hs.unique ⟨(rch L').1 h1,fun L'' hw=>h2 L'' ((rch L'').2 hw)⟩;split at this
  ·simp only[Option.some.injEq]at this;exact⟨by rw[e,this],by omega⟩
  ·cases this
end Go.Ab.Nw
namespace Go.Ab.Nw
set_option maxRecDepth 100000
set_option linter.unusedVariables false
set_option linter.unusedSimpArgs false
def xp(n:Nat)(r:Nat→Nat):List PV:=(List.range n).map fun j=>.int .i64 (r j)
def nm(n:Nat)(d:Mx):List PV:=(List.range n).map fun i=>.fP 1 (xp n (d i))
theorem rF(n:Nat)(d:Mx):(nm n d).length=n:=by simp[nm]
theorem pk(n:Nat)(r:Nat→Nat):(xp n r).length=n:=by simp[xp]
theorem rG{n i:Nat}(d:Mx)(h:i<n):(nm n d)[i]?=some (.fP 1 (xp n (d i))):=by simp[nm,h]
theorem rH{n j:Nat}(r:Nat→Nat)(h:j<n):(xp n r)[j]?=some (.int .i64 (r j)):=by simp[xp,h]
theorem Hz{n i j:Nat}(d:Mx)(x:Nat)(hi:i<n)(hj:j<n):(nm n d).set i (.fP 1 ((xp n (d i)).set j (.int .i64 x)))=nm n (Fh d i j x):=by
 apply List.ext_getElem?;intro a;rw[List.getElem?_set];by_cases e:i=a
 ·subst e;rw[if_pos rfl,if_pos (by rw[rF];exact hi),rG _ hi];congr 2;apply List.ext_getElem?;intro b;rw[List.getElem?_set];by_cases e:j=b
  ·subst e;rw[if_pos rfl,if_pos (by rw[pk];exact hj),rH _ hj];simp[Fh]
  ·rw[if_neg e];by_cases hb:b<n
   ·rw[rH _ hb,rH _ hb];simp[Fh,Ne.symm e]
   ·rw[List.getElem?_eq_none (by rw[pk];omega),List.getElem?_eq_none (by rw[pk];omega)]
 ·rw[if_neg e];by_cases ha:a<n
  ·rw[rG _ ha,rG _ ha];congr 2;unfold xp;apply List.map_congr_left;intro b _;simp[Fh,Ne.symm e]
  ·rw[List.getElem?_eq_none (by rw[rF];omega),List.getElem?_eq_none (by rw[rF];omega)]
theorem asR(es:List PV):aY 1 (cell (.fP 1 es) 0)=some es:=rfl
theorem cI(x:Int):cell (.int .i64 x) 0=.int .i64 x:=rfl
theorem aaS(e p:PV):setRow 1 e 0 p=p:=rfl
theorem aaT(q p:PV):setCells 1 q 0 1 p=p:=rfl
theorem U4(a b:Nat)(hb:b≤4398046511104):(if IntKind.i64.wrap (b:Int)<(a:Int)then IntKind.i64.wrap (b:Int)else(a:Int))=((min a b:Nat):Int):=by rw[fx (by omega) (by omega)];split<;>omega
theorem Yc(pj:Int×Int×Int×List PV×Unit→Option PV)(n k i:Nat)(d:Mx)(hn:n≤64)(hk:k<n)(hi:i<n)(hd:∀j,j≤n→∀a b,a<n→b<n→dj k i d j a b≤1099511627776):ca.run (iy pj) ((n:Int),(k:Int),(i:Int),0,nm n d,())=pj ((n:Int),(k:Int),IntKind.i64.wrap ((i:Int)+1),nm n (dj k i d n),()):=by
 refine bK (fun j=>((n:Int),(k:Int),(i:Int),(j:Int),nm n (dj k i d j),())) n (fun j hj rec=>?_) (fun rec=>?_) (by unfold rounds;omega) rfl
 ·unfold iy;dsimp only;have hg:decide ((j:Int)<(n:Int))=true:=by simp;omega
  have ii:af (i:Int) (nm n (dj k i d j)).length:=Az (by rw[rF];exact hi);have ik:af (k:Int) (nm n (dj k i d j)).length:=Az (by rw[rF];exact hk);have ji:af (j:Int) (xp n (dj k i d j i)).length:=Az (by rw[pk];exact hj);have ki:af (k:Int) (xp n (dj k i d j i)).length:=Az (by rw[pk];exact hk);have jk:af (j:Int) (xp n (dj k i d j k)).length:=Az (by rw[pk];exact hj);have b1:=hd j (by omega) i k hi hk;have b2:=hd j (by omega) k j hk hj;have hs:(((dj k i d j i k:Nat):Int)+((dj k i d j k j:Nat):Int))=((dj k i d j i k+dj k i d j k j:Nat):Int):=by omega
  simp only[hg,if_true,if_pos ii,if_pos ik,Int.toNat_natCast,rG _ hi,rG _ hk,U,asR,if_pos ji,if_pos ki,if_pos jk,rH _ hj,rH _ hk,cI,CH,aaS,aaT,hs,U4 _ _ (show dj k i d j i k+dj k i d j k j≤4398046511104 by omega),Hz _ _ hi hj,al (show j<9223372036854775807 by omega)];rfl
 ·unfold iy;dsimp only;rw[if_neg (by simp)]
theorem Yd(DZ:Int×Int×List PV×Unit→Option PV)(n k:Nat)(d:Mx)(hn:n≤64)(hk:k<n)(hd:∀i,i<n→∀j,j≤n→∀a b,a<n→b<n→dj k i (di n k d i) j a b≤1099511627776):ca.run (iA ca DZ) ((n:Int),(k:Int),0,nm n d,())=DZ ((n:Int),IntKind.i64.wrap ((k:Int)+1),nm n (di n k d n),()):=by
 refine bK (fun i=>((n:Int),(k:Int),(i:Int),nm n (di n k d i),())) n (fun i hi rec=>?_) (fun rec=>?_) (by unfold rounds;omega) rfl
 ·unfold iA;dsimp only;have hg:decide ((i:Int)<(n:Int))=true:=by simp;omega
  rw[if_pos hg,Yc rec n k i _ hn hk hi (hd i hi),al (by omega)];rfl
 ·unfold iA;dsimp only;rw[if_neg (by simp)]
theorem Ye(n:Nat)(d:Mx)(hn:n≤64)(hd:∀k,k<n→∀i,i<n→∀j,j≤n→∀a b,a<n→b<n→dj k i (di n k (dk n d k) i) j a b≤1099511627776):ca.run (iB ca) ((n:Int),0,nm n d,())=some (.rs 1 ((nm n (dk n d n)).map PV.strip)):=by
 refine bK (fun k=>((n:Int),(k:Int),nm n (dk n d k),())) n (fun k hk rec=>?_) (fun rec=>?_) (by unfold rounds;omega) rfl
 ·unfold iB;dsimp only;have hg:decide ((k:Int)<(n:Int))=true:=by simp;omega
  rw[if_pos hg,Yd rec n k _ hn hk (hd k hk),al (by omega)];rfl
 ·unfold iB;dsimp only;rw[if_neg (by simp)]
end Go.Ab.Nw
namespace Go.Ab.Nw
set_option maxRecDepth 100000
set_option linter.unusedVariables false
set_option linter.unusedSimpArgs false
abbrev xq:Nat:=1099511627776
theorem Pk(n:Nat):List.replicate n (PV.fP 1 (List.replicate n (PV.int .i64 1099511627776)))=nm n (Ns xq):=by
 unfold nm xp Ns;apply List.ext_getElem?;intro i;by_cases hi:i<n
 ·have:(List.range n).map (fun j=>PV.int .i64 ((xq:Nat):Int))=List.replicate n (PV.int .i64 1099511627776):=by
   apply List.ext_getElem?;intro j;by_cases hj:j<n
   ·simp[hj,List.getElem?_replicate]
   ·rw[List.getElem?_eq_none (by simp;omega),List.getElem?_eq_none (by simp;omega)]
  simp only[List.getElem?_replicate,if_pos hi,List.getElem?_map,List.getElem?_range hi,Option.map_some];rw[←this]
 ·rw[List.getElem?_eq_none (by simp;omega),List.getElem?_eq_none (by simp;omega)]
theorem Pl(n:Nat)(d:Mx):(nm n d).map PV.strip=eR n fun i j=>((d i j:Nat):Int):=by unfold nm eR xp rE;rw[List.map_map];rfl
theorem Sk(a b:Nat):(if(b:Int)<(a:Int)then(b:Int)else(a:Int))=((min a b:Nat):Int):=by split<;>omega
theorem Fi(fr:Bool)(l:List Fp)(p:Fp):counted fr (l++[p])=if(fr&& !p.free)=true then counted fr l else counted fr l++[p.ed]:=by
 unfold counted;rw[List.filter_append,List.map_append];cases hb:(fr&& !p.free)with
 |true=>simp only[List.filter_cons,hb,Bool.not_true,Bool.false_eq_true,if_false,List.filter_nil,List.map_nil,if_true,List.append_nil]
 |false=>simp only[List.filter_cons,hb,Bool.not_false,Bool.false_eq_true,if_false,List.filter_nil,List.map_nil,List.map_cons,if_true]
theorem xr(l:List Fp)(n:Nat)(hn:n≤64)(hl:l.length≤4096)(h:∀p∈l,p.a<n∧p.b<n)(fr:Bool):fe [.rs 4 (l.map Fp.pv),.int .i64 n,.bool fr]=some (.rs 1 (eR n fun i j=>((dk n (start xq (counted fr l)) n i j:Nat):Int))):=by
 have e0:ab 4 (.rs 4 (l.map Fp.pv))=some (l.map Fp.pv):=by simp[ab]
 have hE:∀y∈counted fr l,y.f<n∧y.t<n:=fun y hy=>by obtain⟨p,hp,rfl⟩:=ui hy;exact h p hp
 simp only[fe,oQ,e0,U,CH,asBool];refine bK (fun i=>(l.map Fp.pv,(n:Int),fr,(i:Int),List.replicate i (PV.fP 1 (List.replicate n (PV.int .i64 1099511627776))),())) n (fun i hi rec=>?_) (fun rec=>?_) (by unfold rounds;omega) rfl
 ·unfold lD;dsimp only;have hg:decide ((i:Int)<(n:Int))=true:=by simp;omega
  rw[if_pos hg];refine bK (fun j=>(l.map Fp.pv,(n:Int),fr,(i:Int),(j:Int),List.replicate i (PV.fP 1 (List.replicate n (PV.int .i64 1099511627776))),List.replicate j (PV.int .i64 1099511627776),())) n (fun j hj fb=>?_) (fun fb=>?_) (by unfold rounds;omega) rfl
  ·unfold lE;dsimp only;have hg:decide ((j:Int)<(n:Int))=true:=by simp;omega
   have Bf:List.replicate j (PV.int .i64 1099511627776)++[PV.int .i64 1099511627776]=List.replicate (j+1) (PV.int .i64 1099511627776):=(List.replicate_succ' ..).symm;rw[if_pos hg];simp only[Bf,List.length_replicate];rw[if_pos (by unfold aa;omega),al (by omega)]
  ·unfold lE;dsimp only;have Bf:List.replicate i (PV.fP 1 (List.replicate n (PV.int .i64 1099511627776)))++[PV.fP 1 (List.replicate n (PV.int .i64 1099511627776))]=List.replicate (i+1) (PV.fP 1 (List.replicate n (PV.int .i64 1099511627776))):=(List.replicate_succ' ..).symm;rw[if_neg (by simp)];simp only[Bf,List.length_replicate];rw[if_pos (by unfold aa;omega),al (by omega)]
 ·unfold lD;dsimp only;rw[if_neg (by simp),Pk];refine bK (fun k=>(l.map Fp.pv,(n:Int),fr,(k:Int),nm n (start xq (counted fr (l.take k))),())) l.length (fun k hk fb=>?_) (fun fb=>?_) (by unfold rounds;omega) rfl
  ·unfold lF;dsimp only;have hg:decide ((k:Int)<((l.map Fp.pv).length:Int))=true:=by simp;omega
   obtain⟨p,hp⟩:∃p,l[k]?=some p:=⟨_,List.getElem?_eq_getElem hk⟩;have CN:(l.map Fp.pv)[k]?=some p.pv:=by rw[List.getElem?_map,hp];rfl
   have htk:l.take (k+1)=l.take k++[p]:=by rw[List.take_add_one,hp];rfl
   obtain⟨pa,pb⟩:=h p (List.mem_of_getElem? hp);have hr:(bif p.free then some true else some !fr)=some (!(fr&& !p.free)):=by cases p.free<;>cases fr<;>rfl
   rw[if_pos hg,ay,CN,U,htk,Fi];simp only[fp3,asBool,U,hr];cases hb:(fr&& !p.free)with
   |true=>simp only[Bool.not_true,Bool.false_eq_true,if_false,if_true,al (show k<9223372036854775807 by omega)]
   |false=>
    obtain⟨d,hd⟩:∃d,d=start xq (counted fr (l.take k)):=⟨_,rfl⟩;have ia:af (p.a:Int) (nm n d).length:=Az (by rw[rF];exact pa);have ib:af (p.b:Int) (xp n (d p.a)).length:=Az (by rw[pk];exact pb);have sU:nm n (start xq (counted fr (l.take k)++[p.ed]))=nm n (Fh d p.a p.b (min (d p.a p.b) p.c)):=by rw[Cm,←hd];rfl
    simp only[Bool.not_false,if_true,Bool.false_eq_true,if_false,sU,←hd,fp0,fp1,fp2,CH,U,if_pos ia,Int.toNat_natCast,rG _ pa,asR,if_pos ib,rH _ pb,cI,aaS,aaT,Sk,Hz _ _ pa pb,al (show k<9223372036854775807 by omega)]
  ·unfold lF;dsimp only;rw[if_neg (by simp),List.take_length,←Pl];have aaU:=Cn (n:=n) (inf:=xq) (counted fr l);exact Ye n _ hn fun k hk i hi j hj a b ha hb=>by have ih:=aaU.rounds k (by omega);have:=(Pj.rows (k:=k) ⟨ih.fw,ih.low,fun a b ha hb hd=>by omega⟩ hk i (by omega)).row hi hk j hj;exact this.fw.top a b ha hb
end Go.Ab.Nw
namespace Go.Ab.Nw
set_option maxRecDepth 100000
set_option linter.unusedVariables false
set_option linter.unusedSimpArgs false
def TF(i k:Nat)(s:Int)(b:Bool):PV:=.agg [.int .i64 i,.int .i64 k,.int .i64 s,.bool b]
def Ag(w f:Int)(i k:Nat):List PV:=if i=k∨w>14400 then[]else TF i k w (f==w)::(if f>w∧f≤14400 then[TF i k f true]else[])
def uj(n:Nat)(it:Nat→Nat→List PV)(i:Nat):List PV:=(List.range n).flatMap (it i)
def wq(n:Nat)(it:Nat→Nat→List PV)(m:Nat):List PV:=(List.range m).flatMap (uj n it)
theorem yK(n:Nat)(it:Nat→Nat→List PV)(i:Nat):uj (n+1) it i=uj n it i++it i n:=by simp[uj,List.range_succ,List.flatMap_append]
theorem yL(n:Nat)(it:Nat→Nat→List PV)(m:Nat):wq n it (m+1)=wq n it m++uj n it m:=by simp[wq,List.range_succ,List.flatMap_append]
theorem xt{it:Nat→Nat→List PV}(h:∀i k,(it i k).length≤2)(i:Nat):∀k,(uj k it i).length≤2*k
 |0=>by simp[uj]
 |k+1=>by rw[yK,List.length_append];have:=xt h i k;have:=h i k;omega
theorem xh{it:Nat→Nat→List PV}(h:∀i k,(it i k).length≤2)(n:Nat):∀m,(wq n it m).length≤2*n*m
 |0=>by simp[wq]
 |m+1=>by rw[yL,List.length_append,Nat.mul_succ];have:=xh h n m;have:=xt h m n;omega
theorem EX(w f:Int)(i k:Nat):(Ag w f i k).length≤2:=by
 unfold Ag;split
 ·simp
 ·split<;>simp
theorem D2{n k:Nat}(D:Nat→Int)(h:k<n):(rE n D)[k]?=some (.int .i64 (D k)):=by simp[rE,h]
theorem yM{n i:Nat}(D:Nat→Nat→Int)(h:i<n):(eR n D)[i]?=some (.rs 1 (rE n (D i))):=by simp[eR,h]
theorem Yf(es:List PV):ab 1 (cell (.rs 1 es) 0)=some es:=by show ab 1 (.rs 1 es)=some es;simp[ab]
theorem rM{a:List PV}(h:a.length≤16384):a.length*32≤aa∧0<32:=by unfold aa;omega
theorem K0(yN:U5→Option PV)(n i:Nat)(W F:Nat→Nat→Int)(hn:n≤64)(hi:i<n)(acc:List PV)(aeG:acc.length≤8192):ca.run (jS ca yN) ((n:Int),eR n W,eR n F,(i:Int),0,acc,())=yN ((n:Int),eR n W,eR n F,IntKind.i64.wrap ((i:Int)+1),acc++uj n (fun i k=>Ag (W i k) (F i k) i k) i,()):=by
 refine bK (fun k=>((n:Int),eR n W,eR n F,(i:Int),(k:Int),acc++uj k (fun i k=>Ag (W i k) (F i k) i k) i,())) n (fun k hk rec=>?_) (fun rec=>?_) (by unfold rounds;omega) (by simp[uj])
 ·unfold jS;dsimp only;have hg:decide ((k:Int)<(n:Int))=true:=by simp;omega
  rw[yK];have hlen:=xt (it:=fun i k=>Ag (W i k) (F i k) i k) (fun i k=>EX _ _ i k) i k;generalize hA:acc++uj k (fun i k=>Ag (W i k) (F i k) i k) i=A;have hAl:A.length≤8192+128:=by rw[←hA,List.length_append];omega
  rw[←List.append_assoc,hA];simp only[hg,if_true,ay,yM _ hi,U,Yf,D2 _ hk,cI,CH,al (show k<9223372036854775807 by omega)];generalize W i k=w;generalize F i k=f;by_cases zL:i=k
  ·have hb:((i:Int)==(k:Int))=true:=by simp[zL]
   have hit:Ag w f i k=[]:=if_pos (.inl zL);simp only[hb,cond_true,U,if_true,hit,List.append_nil]
  ·have hb:((i:Int)==(k:Int))=false:=by rw[beq_eq_false_iff_ne];omega
   simp only[hb,cond_false,U];by_cases hw:w>14400
   ·have hit:Ag w f i k=[]:=if_pos (.inr hw);simp only[hw,decide_true,if_true,hit,List.append_nil]
   ·have Yg:(A++[PV.agg [.int .i64 i,.int .i64 k,.int .i64 w,.bool (f==w)]]).length*32≤aa∧0<32:=rM (by simp;omega);simp only[hw,decide_false,Bool.false_eq_true,if_false,if_pos Yg];by_cases hf:f>w
    ·by_cases hf2:f≤14400
     ·have Jf:(A++[PV.agg [.int .i64 i,.int .i64 k,.int .i64 w,.bool (f==w)]]++[PV.agg [.int .i64 i,.int .i64 k,.int .i64 f,.bool true]]).length*32≤aa∧0<32:=rM (by simp;omega);have hit:Ag w f i k=[TF i k w (f==w),TF i k f true]:=by unfold Ag;rw[if_neg (by omega),if_pos ⟨hf,hf2⟩]
      simp only[hf,hf2,decide_true,cond_true,U,if_true,if_pos Jf,hit];rw[List.append_assoc];rfl
     ·have hit:Ag w f i k=[TF i k w (f==w)]:=by unfold Ag;rw[if_neg (by omega),if_neg (by omega)]
      simp only[hf,hf2,decide_true,decide_false,cond_true,U,Bool.false_eq_true,if_false,hit];rfl
    ·have hit:Ag w f i k=[TF i k w (f==w)]:=by unfold Ag;rw[if_neg (by omega),if_neg (by omega)]
     simp only[hf,decide_false,cond_false,U,Bool.false_eq_true,if_false,hit];rfl
 ·unfold jS;dsimp only;rw[if_neg (by simp)]
theorem HA(n:Nat)(W F:Nat→Nat→Int)(hn:n≤64):ca.run (jT ca) ((n:Int),eR n W,eR n F,0,[],())=some (.rs 4 (wq n (fun i k=>Ag (W i k) (F i k) i k) n)):=by
 refine bK (fun i=>((n:Int),eR n W,eR n F,(i:Int),wq n (fun i k=>Ag (W i k) (F i k) i k) i,())) n (fun i hi rec=>?_) (fun rec=>?_) (by unfold rounds;omega) rfl
 ·unfold jT;dsimp only;have hg:decide ((i:Int)<(n:Int))=true:=by simp;omega
  have hlen:=xh (it:=fun i k=>Ag (W i k) (F i k) i k) (fun i k=>EX _ _ i k) n i;have hb:2*n*i≤2*64*64:=Nat.mul_le_mul (by omega) (by omega);rw[if_pos hg,K0 rec n i W F hn hi _ (by omega),yL,al (by omega)]
 ·unfold jT;dsimp only;rw[if_neg (by simp)]
def pE(n:Nat)(l:List Fp)(fr:Bool)(i j:Nat):Int:=((dk n (start xq (counted fr l)) n i j:Nat):Int)
theorem K1(l:List Fp)(n:Nat)(hn:n≤64)(hl:l.length≤4096)(h:∀p∈l,p.a<n∧p.b<n):fp [.rs 4 (l.map Fp.pv),.int .i64 n]=some (.rs 4 (wq n (fun i k=>Ag (pE n l false i k) (pE n l true i k) i k) n)):=by
 have e0:ab 4 (.rs 4 (l.map Fp.pv))=some (l.map Fp.pv):=by simp[ab]
 have e1:∀es,ab 1 (.rs 1 es)=some es:=fun es=>by simp[ab]
 simp only[fp,sm,e0,U,CH,xr l n hn hl h false,xr l n hn hl h true,e1];exact HA n (pE n l false) (pE n l true) hn
end Go.Ab.Nw
namespace Go.Ab.Nw
set_option maxRecDepth 100000
set_option linter.unusedVariables false
set_option linter.unusedSimpArgs false
def II(w f:Int)(i k:Nat):List PV:=if i=k then[]else(if 0<w∧w≤14400 then[TF i k w (f==w)]else[])++(if f≠w∧0<f∧f≤14400 then[TF i k f true]else[])
theorem js.pos{w:Nat→Nat→Nat→Prop}(h:∀i j c,w i j c→1≤c){i j L:Nat}(hw:js w i j L):1≤L:=by
 cases hw with
 |Cj e=>exact h _ _ _ e
 |snoc _ e=>have:=h _ _ _ e;omega
def pn(M:Nat)(d w:Int):Prop:=(d= -1∧w=(xq:Int))∨(d=w∧1≤w∧w≤M)
theorem aaV{M:Nat}(hM:M<xq){d0 d1 w f:Int}(h0:pn M d0 w)(h1:pn M d1 f)(FY:d1≠-1→d0≠-1∧d0≤d1)(i k:Nat):II d0 d1 i k=Ag w f i k:=by
 unfold II Ag;by_cases zL:i=k
 ·rw[if_pos zL,if_pos (.inl zL)]
 ·rw[if_neg zL];have hM:(M:Int)<1099511627776:=by have:M<1099511627776:=hM;omega
  have aeH:((xq:Nat):Int)=1099511627776:=rfl;rw[pn,aeH]at h0 h1;rcases h0 with⟨e0,w0⟩|⟨e0,w1,w2⟩
  ·have e1:d1= -1:=by
    by_cases h:d1= -1
    ·exact h
    ·exact absurd e0 (FY h).1
   rw[if_neg (by omega),if_neg (by omega),if_pos (.inr (by omega))];rfl
  ·subst e0;rcases h1 with⟨e1,f0⟩|⟨e1,f1,f2⟩
   ·by_cases hw:d0≤14400
    ·have b1:(d1==d0)=false:=by rw[beq_eq_false_iff_ne];omega
     have b2:(f==d0)=false:=by rw[beq_eq_false_iff_ne];omega
     rw[if_pos ⟨by omega,hw⟩,if_neg (by omega),if_neg (by omega),if_neg (by omega),b1,b2];rfl
    ·rw[if_neg (by omega),if_neg (by omega),if_pos (.inr (by omega))];rfl
   ·subst e1;have hle:=(FY (by omega)).2;by_cases hw:d0≤14400
    ·rw[if_pos ⟨by omega,hw⟩,if_neg (show¬(i=k∨d0>14400) by omega)];by_cases hf:d1>d0∧d1≤14400
     ·rw[if_pos hf,if_pos ⟨by omega,by omega,by omega⟩];rfl
     ·rw[if_neg hf,if_neg (by omega)];rfl
    ·rw[if_neg (by omega),if_neg (by omega),if_pos (.inr (by omega))];rfl
theorem Nt{l:List Fp}{n B:Nat}(hn:n≤64)(hB:B≤1073741824)(h:∀p∈l,p.a<n∧p.b<n∧1≤p.c∧p.c≤B)(fr:Bool){i k:Nat}(hi:i<n)(hk:k<n)(zL:i≠k){d:Int}(hd:KZ (counted fr l) (B*n) i k d):pn (B*n) d (pE n l fr i k):=by
 have hE:∀y∈counted fr l,y.f<n∧y.t<n∧1≤y.c:=fun y hy=>by obtain⟨p,hp,rfl⟩:=ui hy;obtain⟨a,b,c,_⟩:=h p hp;exact⟨a,b,c⟩
 have hM:B*n<xq:=by have:B*n≤1073741824*64:=Nat.mul_le_mul hB hn;show B*n<1099511627776;omega
 rcases U3 (inf:=xq) (fun y hy=>⟨(hE y hy).1,(hE y hy).2.1⟩) hM hi hk zL hd with⟨e1,e2⟩|⟨e1,e2⟩
 ·exact .inl ⟨e1,by unfold pE;rw[e2]⟩
 ·refine .inr ⟨e1,?_,by unfold pE;omega⟩;rcases hd with⟨e,_⟩|⟨L,e,_,hr,_⟩
  ·omega
  ·have:1≤L:=by
    rcases hr with⟨h,_⟩|hw
    ·exact absurd h.symm zL
    ·exact hw.pos fun a b c hc=>(hE _ hc).2.2
   unfold pE;omega
theorem U6{l:List Fp}{M i k:Nat}{d0 d1:Int}(h0:KZ (counted false l) M i k d0)(h1:KZ (counted true l) M i k d1)(cS:d1≠-1):d0≠-1∧d0≤d1:=by
 have sub:∀y,y∈counted true l→y∈counted false l:=fun y hy=>by unfold counted at hy⊢;obtain⟨p,hp,rfl⟩:=List.mem_map.1 hy;exact List.mem_map.2 ⟨p,List.mem_filter.2 ⟨(List.mem_filter.1 hp).1,rfl⟩,rfl⟩
 rcases h1 with⟨e,_⟩|⟨L1,e1,_,r1,_⟩
 ·exact absurd e cS
 ·have r:=r1.mem sub;rcases h0 with⟨_,h⟩|⟨L0,e0,_,_,m0⟩
  ·exact absurd r (h L1)
  ·have:=m0 L1 r;omega
end Go.Ab.Nw
namespace Go.Ab.Nw
set_option maxRecDepth 100000
set_option linter.unusedVariables false
set_option linter.unusedSimpArgs false
theorem Nu(w f:Int)(i k:Nat):(II w f i k).length≤2:=by
 unfold II;split
 ·simp
 ·rw[List.length_append];split<;>split<;>simp
theorem Pm(yN:TY8→Option PV)(n i:Nat)(W F:Nat→Nat→Int)(hn:n≤64)(hi:i<n)(acc:List PV)(aeG:acc.length≤8192):ca.run (gg ca yN) (eR n W,eR n F,(i:Int),(n:Int),(i:Int),rE n (W i),(n:Int),0,acc,())=yN (eR n W,eR n F,(n:Int),IntKind.i64.wrap ((i:Int)+1),acc++uj n (fun i k=>II (W i k) (F i k) i k) i,()):=by
 refine bK (fun k=>(eR n W,eR n F,(i:Int),(n:Int),(i:Int),rE n (W i),(n:Int),(k:Int),acc++uj k (fun i k=>II (W i k) (F i k) i k) i,())) n (fun k hk rec=>?_) (fun rec=>?_) (by unfold rounds;omega) (by simp[uj])
 ·unfold gg;dsimp only;have hg:decide ((k:Int)<(n:Int))=true:=by simp;omega
  rw[yK];have hlen:=xt (it:=fun i k=>II (W i k) (F i k) i k) (fun i k=>Nu _ _ i k) i k;generalize hA:acc++uj k (fun i k=>II (W i k) (F i k) i k) i=A;have hAl:A.length≤8192+128:=by rw[←hA,List.length_append];omega
  rw[←List.append_assoc,hA];simp only[hg,if_true,ay,D2 _ hk,yM _ hi,U,Yf,cI,CH,al (show k<9223372036854775807 by omega)];generalize W i k=w;generalize F i k=f;by_cases zL:i=k
  ·have hb:((i:Int)==(k:Int))=true:=by simp[zL]
   have hit:II w f i k=[]:=if_pos zL;simp only[hb,if_true,hit,List.append_nil]
  ·have hb:((i:Int)==(k:Int))=false:=by rw[beq_eq_false_iff_ne];omega
   have hand:∀x:Int,(bif decide (x>0)then some (decide (x≤14400))else some false)=some (decide (0<x∧x≤14400)):=fun x=>by
    by_cases h1:x>0
    ·have:(0<x∧x≤14400)↔x≤14400:=⟨fun h=>h.2,fun h=>⟨h1,h⟩⟩;rw[decide_eq_true h1,cond_true,decide_eq_decide.2 this.symm]
    ·have:¬(0<x∧x≤14400):=fun h=>h1 h.1;rw[decide_eq_false h1,cond_false,decide_eq_false this]
   have Yg:(A++[PV.agg [.int .i64 i,.int .i64 k,.int .i64 w,.bool (f==w)]]).length*32≤aa∧0<32:=rM (by simp;omega);have Jf:(A++[PV.agg [.int .i64 i,.int .i64 k,.int .i64 w,.bool (f==w)]]++[PV.agg [.int .i64 i,.int .i64 k,.int .i64 f,.bool true]]).length*32≤aa∧0<32:=rM (by simp;omega);have Up:(A++[PV.agg [.int .i64 i,.int .i64 k,.int .i64 f,.bool true]]).length*32≤aa∧0<32:=rM (by simp;omega);have cS:(f !=w)=decide (f≠w):=by
    by_cases h:f=w
    ·simp[h]
    ·simp[h]
   have hit:II w f i k=(if 0<w∧w≤14400 then[TF i k w (f==w)]else[])++(if f≠w∧0<f∧f≤14400 then[TF i k f true]else[]):=if_neg zL;simp only[hb,Bool.false_eq_true,if_false,hand,U,cS,decide_eq_true_eq,hit,if_pos Yg,if_pos Jf,if_pos Up];by_cases h1:0<w∧w≤14400
   ·by_cases h2:f≠w
    ·by_cases h3:0<f∧f≤14400
     ·rw[if_pos h1,if_pos h2,if_pos h3,if_pos h1,if_pos ⟨h2,h3⟩,List.append_assoc];rfl
     ·rw[if_pos h1,if_pos h2,if_neg h3,if_pos h1,if_neg (fun h=>h3 h.2)];rfl
    ·rw[if_pos h1,if_neg h2,if_pos h1,if_neg (fun h=>h2 h.1)];rfl
   ·by_cases h2:f≠w
    ·by_cases h3:0<f∧f≤14400
     ·rw[if_neg h1,if_pos h2,if_pos h3,if_neg h1,if_pos ⟨h2,h3⟩];rfl
     ·rw[if_neg h1,if_pos h2,if_neg h3,if_neg h1,if_neg (fun h=>h3 h.2)];simp
    ·rw[if_neg h1,if_neg h2,if_neg h1,if_neg (fun h=>h2 h.1)];simp
 ·unfold gg;dsimp only;rw[if_neg (by simp)]
theorem K2(n:Nat)(W F:Nat→Nat→Int)(hn:n≤64){es':List PV}(hs:tH 4 (fun c a b=>bq [a,b]) (wq n (fun i k=>II (W i k) (F i k) i k) n)=some es'):ca.run (gh ca) (eR n W,eR n F,(n:Int),0,[],())=some (.rs 4 es'):=by
 have hlen:∀i,i≤n→(wq n (fun i k=>II (W i k) (F i k) i k) i).length≤8192:=fun i hi=>by have h1:=xh (it:=fun i k=>II (W i k) (F i k) i k) (fun i k=>Nu _ _ i k) n i;have hb:2*n*i≤2*64*64:=Nat.mul_le_mul (by omega) (by omega);omega
 refine bK (fun i=>(eR n W,eR n F,(n:Int),(i:Int),wq n (fun i k=>II (W i k) (F i k) i k) i,())) n (fun i hi rec=>?_) (fun rec=>?_) (by unfold rounds;omega) rfl
 ·unfold gh;dsimp only;have hg:decide ((i:Int)<(n:Int))=true:=by simp;omega
  have UA:((rE n (W i)).length:Int)=(n:Int):=by simp[rE]
  rw[if_pos hg,ay,yM _ hi,U,Yf,U,UA,Pm rec n i W F hn hi _ (hlen i (by omega)),yL,al (by omega)]
 ·unfold gh;dsimp only;have h:=hlen n (Nat.le_refl _);rw[if_neg (by simp),if_pos (by refine⟨rfl,?_⟩;unfold aa;omega),hs];rfl
end Go.Ab.Nw
namespace Go.Ab.Nw
set_option maxRecDepth 100000
set_option linter.unusedVariables false
set_option linter.unusedSimpArgs false
def kI:PV→Int
 |.int _ n=>n
 |_=>0
def c3(x y:Int):Int:=if x<y then-1 else if x>y then 1 else 0
def or3(a b c:Int):Int:=if a≠0 then a else if b≠0 then b else c
def Wh(a b:List PV):Int:=or3 (c3 (kI (a.getD 0 .bad)) (kI (b.getD 0 .bad))) (c3 (kI (a.getD 1 .bad)) (kI (b.getD 1 .bad))) (c3 (kI (a.getD 2 .bad)) (kI (b.getD 2 .bad)))
theorem K3(x y:Int):cU [.int .i64 x,.int .i64 y]=some (.int .i64 (c3 x y)):=by
 have h:∀z:Int,¬(z !=z)=true:=fun z=>by simp
 simp only[cU,ng,CH,U,if_neg (h x),if_neg (h y),decide_eq_true_eq];unfold c3;split
 ·rfl
 ·split<;>rfl
theorem aaW(a b c:Int):gK [.rs 1 [.int .i64 a,.int .i64 b,.int .i64 c]]=some (.int .i64 (or3 a b c)):=by
 have e0:ab 1 (.rs 1 [.int .i64 a,.int .i64 b,.int .i64 c])=some [.int .i64 a,.int .i64 b,.int .i64 c]:=by simp[ab]
 simp only[gK,v7,e0,U];obtain⟨es,CG⟩:∃es,es=[PV.int .i64 a,.int .i64 b,.int .i64 c]:=⟨_,rfl⟩;have hl:((es.length:Nat):Int)=3:=by rw[CG];rfl
 rw[←CG];have hb:∀(k:Nat)(x:Int),es[k]?=some (.int .i64 x)→k<3→∀rec,eF (0,es,((es.length:Nat):Int),(k:Int),()) rec=if x≠0 then some (.int .i64 x)else rec (0,es,((es.length:Nat):Int),((k+1:Nat):Int),()):=fun k x hx hk rec=>by
  unfold eF;dsimp only;have hg:decide ((k:Int)<((es.length:Nat):Int))=true:=by rw[hl];simp;omega
  rw[if_pos hg,ay,hx,U,cI,CH,U,al (by omega)];by_cases h:x=0
  ·subst h;rfl
  ·have:(x !=0)=true:=by simpa using h
   rw[if_pos this,if_pos h]
 have he:∀rec,eF (0,es,((es.length:Nat):Int),((3:Nat):Int),()) rec=some (.int .i64 0):=fun rec=>by
  unfold eF;dsimp only;have hg:¬decide (((3:Nat):Int)<((es.length:Nat):Int))=true:=by rw[hl];decide
  rw[if_neg hg]
 have hN:rounds=18446744073709551612+1+1+1+1:=rfl;rw[kO,hN];generalize 18446744073709551612=N;show eF (0,es,((es.length:Nat):Int),((0:Nat):Int),()) _=_;rw[hb 0 a (by rw[CG];rfl) (by omega)];unfold or3;by_cases h1:a≠0
 ·rw[if_pos h1,if_pos h1]
 ·rw[if_neg h1,if_neg h1];show eF (0,es,((es.length:Nat):Int),((1:Nat):Int),()) _=_;rw[hb 1 b (by rw[CG];rfl) (by omega)];by_cases h2:b≠0
  ·rw[if_pos h2,if_pos h2]
  ·rw[if_neg h2,if_neg h2];show eF (0,es,((es.length:Nat):Int),((2:Nat):Int),()) _=_;rw[hb 2 c (by rw[CG];rfl) (by omega)];by_cases h3:c≠0
   ·rw[if_pos h3]
   ·rw[if_neg h3];show eF (0,es,((es.length:Nat):Int),((3:Nat):Int),()) _=_;rw[he];have:c=0:=Decidable.not_not.1 h3;rw[this]
def P4(i k:Nat)(s:Int)(b:Bool):List PV:=[.int .i64 i,.int .i64 k,.int .i64 s,.bool b]
theorem Sl(i k:Nat)(s:Int)(b:Bool)(i' k':Nat)(s':Int)(b':Bool):bq [ve (P4 i k s b),ve (P4 i' k' s' b')]=some (.int .i64 (Wh (P4 i k s b) (P4 i' k' s' b'))):=by have a:∀(w x y z:PV),asAgg 4 (.agg [w,x,y,z])=some ():=fun _ _ _ _=>rfl;have a0:∀(w x y z:PV),cell (.agg [w,x,y,z]) 0=w:=fun _ _ _ _=>rfl;have a1:∀(w x y z:PV),cell (.agg [w,x,y,z]) 1=x:=fun _ _ _ _=>rfl;have a2:∀(w x y z:PV),cell (.agg [w,x,y,z]) 2=y:=fun _ _ _ _=>rfl;have a3:∀(w x y z:PV),cell (.agg [w,x,y,z]) 3=z:=fun _ _ _ _=>rfl;simp only[bq,j6,ve,P4,a,a0,a1,a2,a3,CH,asBool,U,K3,aaW];rfl
end Go.Ab.Nw
namespace Go.Ab.Nw
set_option maxRecDepth 100000
set_option linter.unusedVariables false
set_option linter.unusedSimpArgs false
theorem K4(x y:Int):(c3 x y<0↔x<y)∧(c3 x y=0↔x=y):=by unfold c3;split<;>(try split)<;>constructor<;>constructor<;>intro h<;>first|omega|(exfalso;omega)
theorem yO(i k:Nat)(s:Int)(b:Bool)(i' k':Nat)(s':Int)(b':Bool):Wh (P4 i k s b) (P4 i' k' s' b')<0↔i<i'∨(i=i'∧(k<k'∨(k=k'∧s<s'))):=by
 show or3 (c3 (i:Int) (i':Int)) (c3 (k:Int) (k':Int)) (c3 s s')<0↔_;have h1:=K4 (i:Int) (i':Int);have h2:=K4 (k:Int) (k':Int);have h3:=K4 s s';unfold or3;split
 ·constructor<;>intro h<;>omega
 ·split
  ·constructor<;>intro h<;>omega
  ·constructor<;>intro h<;>omega
def IsF(e:List PV):Prop:=∃i k s b,e=P4 i k s b
variable{ns:List (List PV)}
theorem K5(h:ns.Pairwise fun a b=>Wh a b<0):∀a∈ns,∀b∈ns,¬Wh a b<0→¬Wh b a<0→a=b:=by
 induction h with
 |nil=>intro a ha;cases ha
 | @cons x l hx _ ih=>
  intro a ha b hb h1 h2;rcases List.mem_cons.1 ha with ea|VI
  ·rcases List.mem_cons.1 hb with eb|fQ
   ·rw[ea,eb]
   ·rw[ea]at h1;exact absurd (hx b fQ) h1
  ·rcases List.mem_cons.1 hb with eb|fQ
   ·rw[eb]at h2;exact absurd (hx a VI) h2
   ·exact ih a VI b fQ h1 h2
theorem HB(hF:∀e∈ns,IsF e)(h:ns.Pairwise fun a b=>Wh a b<0):jd 4 (fun c a b=>bq [a,b]) ns ns Wh where
 len a ha:=by obtain⟨i,k,s,b,rfl⟩:=hF a ha;rfl
 QJ a ha p hp:=by obtain⟨i,k,s,b,rfl⟩:=hF a ha;simp only[P4,List.mem_cons,List.not_mem_nil,or_false]at hp;rcases hp with rfl|rfl|rfl|rfl<;>rfl
 perm:=List.Perm.refl _
 reads c _ _ a ha b hb:=by obtain⟨i,k,s,q,rfl⟩:=hF a ha;obtain⟨i',k',s',q',rfl⟩:=hF b hb;exact Sl ..
 irrefl a ha:=by obtain⟨i,k,s,q,rfl⟩:=hF a ha;rw[yO];omega
 trans a ha b hb c hc h1 h2:=by obtain⟨i,k,s,q,rfl⟩:=hF a ha;obtain⟨i',k',s',q',rfl⟩:=hF b hb;obtain⟨i2,k2,s2,q2,rfl⟩:=hF c hc;rw[yO]at*;omega
 total:=K5 h
 sorted:=h.imp_of_mem fun{a b}ha hb qM=>by obtain⟨i,k,s,q,rfl⟩:=hF a ha;obtain⟨i',k',s',q',rfl⟩:=hF b hb;rw[yO]at*;omega
def Zl(w f:Int)(i k:Nat):List (List PV):=if i=k∨w>14400 then[]else P4 i k w (f==w)::(if f>w∧f≤14400 then[P4 i k f true]else[])
theorem U7(w f:Int)(i k:Nat):(Zl w f i k).map ve=Ag w f i k:=by
 unfold Zl Ag;split
 ·rfl
 ·split<;>rfl
def CQ(n:Nat)(W F:Nat→Nat→Int):List (List PV):=(List.range n).flatMap fun i=>(List.range n).flatMap fun k=>Zl (W i k) (F i k) i k
theorem yD(n:Nat)(W F:Nat→Nat→Int):eD (CQ n W F)=wq n (fun i k=>Ag (W i k) (F i k) i k) n:=by unfold eD CQ wq uj;rw[List.map_flatMap];congr 1;funext i;rw[List.map_flatMap];congr 1;funext k;exact U7 ..
theorem xv{w f:Int}{i k:Nat}{e:List PV}(h:e∈Zl w f i k):∃s b,e=P4 i k s b:=by
 unfold Zl at h;split at h
 ·cases h
 ·rcases List.mem_cons.1 h with rfl|h
  ·exact⟨_,_,rfl⟩
  ·split at h
   ·simp at h;subst h;exact⟨_,_,rfl⟩
   ·cases h
theorem Hg(n:Nat)(W F:Nat→Nat→Int):∀e∈CQ n W F,IsF e:=fun e h=>by obtain⟨i,_,h⟩:=List.mem_flatMap.1 h;obtain⟨k,_,h⟩:=List.mem_flatMap.1 h;obtain⟨s,b,rfl⟩:=xv h;exact⟨i,k,s,b,rfl⟩
theorem HC(n:Nat)(W F:Nat→Nat→Int):(CQ n W F).Pairwise fun a b=>Wh a b<0:=by
 unfold CQ;rw[List.pairwise_flatMap];refine⟨fun i _=>?_,List.pairwise_lt_range.imp fun{i i'}Dq x hx y hy=>?_⟩
 ·rw[List.pairwise_flatMap];refine⟨fun k _=>?_,List.pairwise_lt_range.imp fun{k k'}yf x hx y hy=>?_⟩
  ·unfold Zl;split
   ·exact .nil
   ·split
    ·rename_i h;refine List.pairwise_cons.2 ⟨fun y hy=>?_,List.pairwise_singleton ..⟩;simp at hy;subst hy;rw[yO];omega
    ·exact List.pairwise_singleton ..
  ·obtain⟨s,b,rfl⟩:=xv hx;obtain⟨s',b',rfl⟩:=xv hy;rw[yO];omega
 ·obtain⟨k,_,hx⟩:=List.mem_flatMap.1 hx;obtain⟨k',_,hy⟩:=List.mem_flatMap.1 hy;obtain⟨s,b,rfl⟩:=xv hx;obtain⟨s',b',rfl⟩:=xv hy;rw[yO];omega
theorem KI(l:List Fp)(n:Nat)(hn:n≤64)(hl:l.length≤4096)(h:∀p∈l,p.a<n∧p.b<n∧1≤p.c∧p.c≤14400):cZ [.rs 4 (l.map Fp.pv),.int .i64 n]=some (.rs 4 (eD (CQ n (pE n l false) (pE n l true))))∧fp [.rs 4 (l.map Fp.pv),.int .i64 n]=some (.rs 4 (eD (CQ n (pE n l false) (pE n l true)))):=by
 have hr:=K1 l n hn hl fun p hp=>⟨(h p hp).1,(h p hp).2.1⟩;rw[←yD]at hr;refine⟨?_,hr⟩;have hB:(14400:Nat)≤1073741824:=by omega
 obtain⟨D0,d0,e0⟩:=Nr l n 14400 hn hl hB (fun p hp=>⟨(h p hp).1,(h p hp).2.1,(h p hp).2.2.2⟩) false;obtain⟨D1,d1,e1⟩:=Nr l n 14400 hn hl hB (fun p hp=>⟨(h p hp).1,(h p hp).2.1,(h p hp).2.2.2⟩) true;have hM:14400*n<xq:=by show 14400*n<1099511627776;omega
 have Jt:wq n (fun i k=>II (D0 i k) (D1 i k) i k) n=eD (CQ n (pE n l false) (pE n l true)):=by
  rw[yD];unfold wq uj;rw[List.flatMap_def,List.flatMap_def];congr 1;apply List.map_congr_left;intro i hi;rw[List.flatMap_def,List.flatMap_def];congr 1;apply List.map_congr_left;intro k hk;have hi:=List.mem_range.1 hi;have hk:=List.mem_range.1 hk;dsimp only;by_cases zL:i=k
  ·rw[show II (D0 i k) (D1 i k) i k=[]from if_pos zL,show Ag (pE n l false i k) (pE n l true i k) i k=[]from if_pos (.inl zL)]
  ·exact aaV hM (Nt hn hB h false hi hk zL (d0 i k hi hk)) (Nt hn hB h true hi hk zL (d1 i k hi hk)) (U6 (d0 i k hi hk) (d1 i k hi hk)) i k
 have a0:ab 4 (.rs 4 (l.map Fp.pv))=some (l.map Fp.pv):=by simp[ab]
 have a1:∀es,ab 1 (.rs 1 es)=some es:=fun es=>by simp[ab]
 have hlen:((eR n D0).length:Int)=(n:Int):=by simp[eR]
 simp only[cZ,l7,a0,CH,U,e0,e1,a1,hlen];exact K2 n D0 D1 hn (by rw[Jt];exact ON (HB (Hg _ _ _) (HC _ _ _)))
end Go.Ab.Nw
