import Derived.Test.YtcmhmlnkhmefbaaGreatNwP1
namespace Go.Ab.Nw
set_option maxRecDepth 100000
set_option linter.unusedVariables false
set_option linter.unusedSimpArgs false
def KS(E:List Ed)(M:Nat)(s v:Nat)(d:Int):Prop:=(d= -1∧∀L,¬Fb E s v L)∨∃L:Nat,d=L∧L≤M∧Fb E s v L∧∀L',Fb E s v L'→L≤L'
theorem KS.unique{E:List Ed}{M M' s v:Nat}{d d':Int}(h:KS E M s v d)(h':KS E M' s v d'):d=d':=by
 rcases h with⟨e,h⟩|⟨L,e,_,h1,h2⟩
 ·rcases h' with⟨e',_⟩|⟨L',_,_,Mw,_⟩
  ·rw[e,e']
  ·exact absurd Mw (h L')
 ·rcases h' with⟨_,h'⟩|⟨L',e',_,Mw,N9⟩
  ·exact absurd h1 (h' L)
  ·rw[e,e',Nat.le_antisymm (h2 _ Mw) (N9 _ h1)]
theorem Fb.mem{E E':List Ed}(h:∀y,y∈E→y∈E'){s v L:Nat}(hr:Fb E s v L):Fb E' s v L:=by
 rcases hr with hr|hr
 ·exact .inl hr
 ·exact .inr (hr.mono fun i j c hc=>h _ hc)
theorem KS.mem{E E':List Ed}(h:∀y,y∈E↔y∈E'){M s v:Nat}{d:Int}(hd:KS E M s v d):KS E' M s v d:=by
 rcases hd with⟨e,h1⟩|⟨L,e,hM,h1,h2⟩
 ·exact .inl ⟨e,fun L hL=>h1 L (hL.mem fun y hy=>(h y).2 hy)⟩
 ·exact .inr ⟨L,e,hM,h1.mem fun y hy=>(h y).1 hy,fun L' hL=>h2 L' (hL.mem fun y hy=>(h y).2 hy)⟩
def rI(n:Nat)(D:Nat→Int):List PV:=(List.range n).map fun v=>.int .i64 (D v)
def eU(n:Nat)(D:Nat→Nat→Int):List PV:=(List.range n).map fun s=>.rs 1 (rI n (D s))
variable{D:Nat→Nat→Int}
theorem Ht{n:Nat}{D':Nat→Nat→Int}(h:∀s v,s<n→v<n→D s v=D' s v):eU n D=eU n D':=by unfold eU;apply List.map_congr_left;intro s hs;unfold rI;congr 1;apply List.map_congr_left;intro v hv;rw[h s v (List.mem_range.1 hs) (List.mem_range.1 hv)]
theorem Sf(E:List Ed)(n B:Nat)(hn:n≤64)(hE:E.length≤4096)(hB:B≤1073741824)(h:∀y∈E,y.f<n∧y.t<n∧y.c≤B):∃D:Nat→Nat→Int,(∀s v,s<n→v<n→KS E (B*n) s v (D s v))∧dV [.int .i64 n,.rs 3 (E.map Ed.pv)]=some (.bl [.rs 1 (eU n D),.int .i64 0]):=by
 have h':∀y∈E,y.f<n∧y.t<n∧y.c≤1073741824:=fun y hy=>⟨(h y hy).1,(h y hy).2.1,by have:=(h y hy).2.2;omega⟩;have hG:=Se E n hn hE h';have each:∀s,∃o:mh,s<n→(∃pu,DI E n s B o pu [])∧dt [.int .i64 n,.rm 3 ((DW (vk E)).map fun x=>x.1) ((DW (vk E)).map fun x=>x.2.lZ),.int .i64 s]=some (.rs 3 (dO n o)):=fun s=>by
  by_cases hs:s<n
  ·obtain⟨o,pu,h1,h2⟩:=Pd hG hs hB (fun y hy=>(h y hy).2.2) hn;exact⟨o,fun _=>⟨⟨pu,h1⟩,h2⟩⟩
  ·exact⟨fun _=>none,fun h=>absurd h hs⟩
 obtain⟨o,ho⟩:=Classical.axiomOfChoice each;refine⟨fun s v=>Fe (o s v),fun s v hs hv=>?_,?_⟩
 ·obtain⟨⟨pu,hI⟩,_⟩:=ho s hs;have:=hI.done h hv;cases hl:o s v with
  |none=>rw[hl]at this;exact .inl ⟨by dsimp only;rw[hl];rfl,this⟩
  |some p=>obtain⟨L,e⟩:=p;rw[hl]at this;exact .inr ⟨L,by dsimp only;rw[hl];rfl,this.1,this.2.1,this.2.2⟩
 ·have e0:ab 3 (.rs 3 (E.map Ed.pv))=some (E.map Ed.pv):=by simp[ab]
  have ev:(0:Int)≤(n:Int)∧(n:Int)≤(n:Int)∧n*24≤aa∧0<24∧0<1:=by refine⟨by omega,by omega,?_,by omega,by omega⟩;unfold aa;omega
  have hz:((0:Int) !=0)=false:=rfl;simp only[dV,su,CK,e0,U,Sc E n hn hE h',hz,Bool.false_eq_true,if_false,Fh E hE,dS,if_true,Int.toNat_natCast,if_pos ev,List.length_replicate];refine bM (fun k=>((n:Int),PV.rm 3 ((DW (vk E)).map fun x=>x.1) ((DW (vk E)).map fun x=>x.2.lZ),(n:Int),(k:Int),qe n k (fun s=>.rs 1 (rI n fun v=>Fe (o s v))) (.rs 0 []),())) n (fun k hk rec=>?_) (fun rec=>?_) (by unfold rounds;omega) ?_
  ·unfold jW;dsimp only;have hg:decide ((k:Int)<(n:Int))=true:=by simp;omega
   have e3:ab 3 (.rs 3 (dO n (o k)))=some (dO n (o k)):=by simp[ab]
   have e1:ab 1 (.rs 1 ((List.range n).map fun v=>PV.int .i64 (Fe (o k v))))=some ((List.range n).map fun v=>PV.int .i64 (Fe (o k v))):=by simp[ab]
   rw[if_pos hg,(ho k hk).2,U,e3,U,KQ n hn,U,e1,U,if_pos (AH (by rw[Ho];exact hk)),Int.toNat_natCast,Hq hk,U,an (by omega)];have:=Hr (F:=fun s=>PV.rs 1 (rI n fun v=>Fe (o s v))) (z:=.rs 0 []) hk;unfold rI at this⊢;rw[this]
  ·unfold jW;dsimp only;rw[if_neg (by simp),Hs];rfl
  ·rw[DV];rfl
theorem Sg(E E':List Ed)(n B:Nat)(hn:n≤64)(hE:E'.length≤4096)(hB:B≤1073741824)(h:∀y∈E,y.f<n∧y.t<n∧y.c≤B)(he:∀y,y∈E↔y∈E')(hD:∀s v,s<n→v<n→KS E (B*n) s v (D s v)):dV [.int .i64 n,.rs 3 (E'.map Ed.pv)]=some (.bl [.rs 1 (eU n D),.int .i64 0]):=by obtain⟨D',d1,d2⟩:=Sf E' n B hn hE hB fun y hy=>h y ((he y).2 hy);rw[d2,Ht fun s v hs hv=>((hD s v hs hv).mem he).unique (d1 s v hs hv)]
end Go.Ab.Nw
namespace Go.Ab.Nw
set_option maxRecDepth 100000
set_option linter.unusedVariables false
set_option linter.unusedSimpArgs false
structure Fp where
 a:Nat
 b:Nat
 c:Nat
 free:Bool
 deriving DecidableEq
def Fp.pv(p:Fp):PV:=.agg [.int .i64 p.a,.int .i64 p.b,.int .i64 p.c,.bool p.free]
theorem fp0(p:Fp):cell p.pv 0=.int .i64 p.a:=rfl
theorem fp1(p:Fp):cell p.pv 1=.int .i64 p.b:=rfl
theorem fp2(p:Fp):cell p.pv 2=.int .i64 p.c:=rfl
theorem fp3(p:Fp):cell p.pv 3=.bool p.free:=rfl
def Fp.ed(p:Fp):Ed:=⟨p.a,p.b,p.c⟩
def wA(z:Ed):List Ed→List Ed
 |[]=>[z]
 |e::r=>if z.f=e.f∧z.t=e.t then z::r else e::wA z r
def xx(a b:Nat):List Ed→Option Nat
 |[]=>none
 |e::r=>if a=e.f∧b=e.t then some e.c else xx a b r
theorem Cq(a b:Nat)(z:Ed):∀m,xx a b (wA z m)=if a=z.f∧b=z.t then some z.c else xx a b m
 |[]=>rfl
 |e::r=>by
  simp only[wA];by_cases h:z.f=e.f∧z.t=e.t
  ·rw[if_pos h];simp only[xx];by_cases h2:a=z.f∧b=z.t
   ·rw[if_pos h2,if_pos h2]
   ·rw[if_neg h2,if_neg h2,if_neg (by rw[←h.1,←h.2];exact h2)]
  ·rw[if_neg h];simp only[xx];by_cases h2:a=e.f∧b=e.t
   ·rw[if_pos h2,if_neg (by rw[h2.1,h2.2];rintro⟨x,y⟩;exact h ⟨x.symm,y.symm⟩),if_pos h2]
   ·rw[if_neg h2,if_neg h2];exact Cq a b z r
theorem Hu(z e:Ed):∀m,e∈wA z m→e=z∨e∈m
 |[],h=>by simp[wA]at h;exact .inl h
 |x::r,h=>by
  simp only[wA]at h;split at h
  ·rcases List.mem_cons.1 h with h|h
   ·exact .inl h
   ·exact .inr (by simp[h])
  ·rcases List.mem_cons.1 h with h|h
   ·exact .inr (by simp[h])
   ·rcases Hu z e r h with h|h
    ·exact .inl h
    ·exact .inr (by simp[h])
theorem Hv{a b x:Nat}:∀{m:List Ed},xx a b m=some x→∃e∈m,e.f=a∧e.t=b∧e.c=x
 |[],h=>by cases h
 |e::r,h=>by
  simp only[xx]at h;split at h
  ·rename_i h2;cases h;exact⟨e,by simp,h2.1.symm,h2.2.symm,rfl⟩
  ·obtain⟨e',h1,h2⟩:=Hv h;exact⟨e',by simp[h1],h2⟩
theorem Hw(z:Ed):∀m,(wA z m).length≤m.length+1
 |[]=>by simp[wA]
 |e::r=>by
  simp only[wA];split
  ·simp
  ·have:=Hw z r;simp;omega
def Ng(fr:Bool)(m:List Ed)(p:Fp):List Ed:=if(fr&& !p.free)=true then m else match xx p.a p.b m with
 |none=>wA p.ed m
 |some x=>if p.c<x then wA p.ed m else m
def kx(fr:Bool)(l:List Fp):List Ed:=l.foldl (Ng fr) []
theorem D2(fr:Bool)(l:List Fp)(p:Fp):kx fr (l++[p])=Ng fr (kx fr l) p:=by simp[kx]
def counted(fr:Bool)(l:List Fp):List Ed:=(l.filter fun p=> !(fr&& !p.free)).map Fp.ed
theorem Nh(fr:Bool)(l:List Fp):(∀e∈kx fr l,e∈counted fr l)∧(∀e∈counted fr l,∃x,xx e.f e.t (kx fr l)=some x∧x≤e.c)∧(kx fr l).length≤l.length:=by
 rw[←List.reverse_reverse l];induction l.reverse with
 |nil=>exact⟨(fun e h=>by simp[kx]at h),(fun e h=>by simp[counted]at h),Nat.le_refl _⟩
 |cons p l ih=>
  rw[List.reverse_cons,D2];obtain⟨i1,i2,i3⟩:=ih;have hc:counted fr (l.reverse++[p])=counted fr l.reverse++(if(fr&& !p.free)=true then[]else[p.ed]):=by
   unfold counted;rw[List.filter_append,List.map_append];congr 1;cases hb:(fr&& !p.free)with
   |true=>simp only[List.filter_cons,hb,Bool.not_true,Bool.false_eq_true,if_false,List.filter_nil,List.map_nil,if_true]
   |false=>simp only[List.filter_cons,hb,Bool.not_false,Bool.false_eq_true,if_false,List.filter_nil,List.map_nil,List.map_cons,if_true]
  rw[hc];unfold Ng;by_cases h:(fr&& !p.free)=true
  ·rw[if_pos h,if_pos h];exact⟨fun e he=>by simpa using i1 e he,fun e he=>i2 e (by simpa using he),by simp at i3⊢;omega⟩
  ·rw[if_neg h,if_neg h];have put:(∀e∈wA p.ed (kx fr l.reverse),e∈counted fr l.reverse++[p.ed]):=fun e he=>by
    rcases Hu _ _ _ he with rfl|he
    ·simp
    ·exact List.mem_append_left _ (i1 e he)
   have len:(wA p.ed (kx fr l.reverse)).length≤(l.reverse++[p]).length:=by have:=Hw p.ed (kx fr l.reverse);simp at i3⊢;omega
   cases hb:xx p.a p.b (kx fr l.reverse)with
   |none=>
    refine⟨put,fun e he=>?_,len⟩;rw[Cq];by_cases hk:e.f=p.ed.f∧e.t=p.ed.t
    ·rw[if_pos hk];rcases List.mem_append.1 he with he|he
     ·obtain⟨x,h1,_⟩:=i2 e he;rw[hk.1,hk.2]at h1;rw[show p.ed.f=p.a from rfl,show p.ed.t=p.b from rfl,hb]at h1;cases h1
     ·simp at he;subst he;exact⟨_,rfl,Nat.le_refl _⟩
    ·rw[if_neg hk];rcases List.mem_append.1 he with he|he
     ·exact i2 e he
     ·simp at he;subst he;exact absurd ⟨rfl,rfl⟩ hk
   |some x=>
    dsimp only;by_cases hx:p.c<x
    ·rw[if_pos hx];refine⟨put,fun e he=>?_,len⟩;rw[Cq];by_cases hk:e.f=p.ed.f∧e.t=p.ed.t
     ·rw[if_pos hk];rcases List.mem_append.1 he with he|he
      ·obtain⟨y,h1,h2⟩:=i2 e he;rw[hk.1,hk.2,show p.ed.f=p.a from rfl,show p.ed.t=p.b from rfl,hb]at h1;cases h1;exact⟨_,rfl,by show p.c≤e.c;omega⟩
      ·simp at he;subst he;exact⟨_,rfl,Nat.le_refl _⟩
     ·rw[if_neg hk];rcases List.mem_append.1 he with he|he
      ·exact i2 e he
      ·simp at he;subst he;exact absurd ⟨rfl,rfl⟩ hk
    ·rw[if_neg hx];refine⟨fun e he=>List.mem_append_left _ (i1 e he),fun e he=>?_,by simp at i3⊢;omega⟩;rcases List.mem_append.1 he with he|he
     ·exact i2 e he
     ·simp at he;subst he;exact⟨x,hb,by show x≤p.c;omega⟩
def lH(e:Ed):PV×PV:=(.agg [.int .i64 e.f,.int .i64 e.t,.bool false],.int .i64 e.c)
theorem aaM(a b c d:Nat):cC (PV.agg [.int .i64 a,.int .i64 b,.bool false]).cells (PV.agg [.int .i64 c,.int .i64 d,.bool false]).cells=decide (a=c∧b=d):=by
 have h:∀x y:Nat,((x:Int)==(y:Int))=decide (x=y):=fun x y=>by
  by_cases h:x=y
  ·simp[h]
  ·rw[decide_eq_false h,beq_eq_false_iff_ne];omega
 simp only[PV.cells,cC,peq,Bool.and_true,h,beq_self_eq_true,Bool.decide_and]
theorem V4(a b:Nat):∀m:List Ed,dN (.agg [.int .i64 a,.int .i64 b,.bool false]) (.int .i64 0) (m.map lH)=.int .i64 (((xx a b m).getD 0:Nat):Int)∧sS (.agg [.int .i64 a,.int .i64 b,.bool false]) (m.map lH)=(xx a b m).isSome
 |[]=>⟨rfl,rfl⟩
 |e::r=>by
  obtain⟨h1,h2⟩:=V4 a b r;simp only[List.map_cons,lH,dN,sS,aaM,xx];by_cases h:a=e.f∧b=e.t
  ·simp[h]
  ·simp only[h,decide_false,Bool.false_eq_true,if_false,Bool.false_or];exact⟨h1,h2⟩
theorem XY(z:Ed):∀m:List Ed,eR (.agg [.int .i64 z.f,.int .i64 z.t,.bool false]) (.int .i64 z.c) (m.map lH)=(wA z m).map lH
 |[]=>rfl
 |e::r=>by
  have ih:=XY z r;simp only[List.map_cons,eR,wA];rw[show(lH e)=(PV.agg [.int .i64 e.f,.int .i64 e.t,.bool false],PV.int .i64 e.c)from rfl];simp only[aaM];by_cases h:z.f=e.f∧z.t=e.t
  ·simp[h,lH]
  ·simp only[h,decide_false,Bool.false_eq_true,if_false,List.map_cons,ih];rfl
theorem Bv{R:Type}{n:Nat}{g:Nat→Option R}{r:R}(hn:0<n)(h:∀i,i<n→g i=some r):pP n g=some r:=by unfold pP;have hh:∃r,∀i,i<n→g i=some r:=⟨r,h⟩;rw[dif_pos hh];have:=Classical.choose_spec hh 0 hn;rw[h 0 hn]at this;exact this.symm
theorem Pe{n:Nat}(hn:n≤64)(r:PV)(aaN:List Ed→Prop)(nc:∀acc,aaN acc→∃D,dV [.int .i64 n,.rs 3 (acc.map Ed.pv)]=some (.bl [.rs 1 D,.int .i64 0])∧r=.rs 1 D):∀(rem acc:List Ed)(N:Nat),rem.length<N→acc.length+rem.length≤4096→(∀l,(∀y,y∈l↔y∈acc∨y∈rem)→l.length=acc.length+rem.length→aaN l)→cG (ey cd) N ((n:Int),acc.map Ed.pv,rem.map lH,())=some r:=by
 intro rem;generalize hk:rem.length=k;induction k generalizing rem with
 |zero=>
  intro acc N hN hl hg;have:rem=[]:=List.eq_nil_of_length_eq_zero hk;subst this;obtain⟨N,rfl⟩:∃m,N=m+1:=⟨N-1,by omega⟩;simp only[cG];unfold ey;dsimp only;rw[if_pos (show(List.map lH []).isEmpty=true from rfl)];obtain⟨D,h1,h2⟩:=nc acc (hg acc (fun y=>by simp) (by simp));have e2:bV 2 (.bl [.rs 1 D,.int .i64 0])=some [.rs 1 D,.int .i64 0]:=rfl;have e3:ab 1 (.rs 1 D)=some D:=by simp[ab]
  rw[h1,U,e2,U];simp only[List.getD_cons_zero,List.getD_cons_succ,e3,U,CK];rw[h2]
 |succ k ih=>
  intro acc N hN hl hg;obtain⟨N,rfl⟩:∃m,N=m+1:=⟨N-1,by omega⟩;simp only[cG];generalize EO:cG (ey cd) N=rec;unfold ey;dsimp only
  have cR:¬(rem.map lH).isEmpty=true:=by cases rem with
   |nil=>simp at hk
   |cons _ _=>simp
  rw[if_neg cR];refine Bv (by simp;omega) fun i hi=>?_;have nd:i<rem.length:=by simpa using hi
  obtain⟨e,he⟩:∃e,rem[i]?=some e:=⟨_,List.getElem?_eq_getElem nd⟩;have CR:(rem.map lH)[i]?=some (lH e):=by rw[List.getElem?_map,he];rfl
  have ev:(acc.map Ed.pv++[PV.agg [.int .i64 e.f,.int .i64 e.t,.int .i64 e.c]]).length*24≤aa∧0<24:=by simp only[List.length_append,List.length_map,List.length_cons,List.length_nil];unfold aa;omega
  have Bk:acc.map Ed.pv++[PV.agg [.int .i64 e.f,.int .i64 e.t,.int .i64 e.c]]=(acc++[e]).map Ed.pv:=by simp[Ed.pv]
  have XZ:(rem.map lH).eraseIdx i=(rem.eraseIdx i).map lH:=by apply List.ext_getElem?;intro j;simp only[List.getElem?_eraseIdx,List.getElem?_map];split<;>rfl
  have hle:(rem.eraseIdx i).length=k:=by rw[List.length_eraseIdx];simp[nd];omega
  rw[CR,U];rw[Bk]at ev;simp only[lH,ag3,aaG,XW,CK,U,Bk,if_pos ev,XZ];rw[←EO];refine ih (rem.eraseIdx i) hle (acc++[e]) N (by omega) (by simp;omega) fun l P5 Gv=>hg l (fun y=>?_) (by rw[Gv];simp;omega);rw[P5];have bP:y∈rem↔y=e∨y∈rem.eraseIdx i:=by
   rw[List.mem_eraseIdx_iff_getElem?];constructor
   ·intro hy;obtain⟨j,hj⟩:=List.getElem?_of_mem hy;by_cases Jd:j=i
    ·subst Jd;rw[he]at hj;exact .inl (Option.some.inj hj).symm
    ·exact .inr ⟨j,Jd,hj⟩
   ·rintro(rfl|⟨j,_,hj⟩)
    ·exact List.mem_of_getElem? he
    ·exact List.mem_of_getElem? hj
  rw[bP];simp only[List.mem_append,List.mem_singleton];constructor
  ·rintro((h|h)|h)
   ·exact .inl h
   ·exact .inr (.inl h)
   ·exact .inr (.inr h)
  ·rintro(h|h|h)
   ·exact .inl (.inl h)
   ·exact .inl (.inr h)
   ·exact .inr h
end Go.Ab.Nw
namespace Go.Ab.Nw
set_option maxRecDepth 100000
set_option linter.unusedVariables false
set_option linter.unusedSimpArgs false
theorem Fb.leq{E E':List Ed}(h:∀e∈E,∃e'∈E',e'.f=e.f∧e'.t=e.t∧e'.c≤e.c){s v L:Nat}(hr:Fb E s v L):∃L',L'≤L∧Fb E' s v L':=by
 rcases hr with⟨h1,h2⟩|hr
 ·exact⟨L,Nat.le_refl _,.inl ⟨h1,h2⟩⟩
 ·obtain⟨L',l1,l2⟩:=hr.leq (w':=ew E') fun i j c hc=>by
   obtain⟨e',m,e1,e2,e3⟩:=h _ hc;refine⟨e'.c,e3,?_⟩;unfold ew;have:(⟨i,j,e'.c⟩:Ed)=e':=by have e1:e'.f=i:=e1;have e2:e'.t=j:=e2;rw[←e1,←e2]
   rw[this];exact m
  exact⟨L',l1,.inr l2⟩
theorem Si{fr:Bool}{l:List Fp}{M s v:Nat}{d:Int}(h:KS (kx fr l) M s v d):KS (counted fr l) M s v d:=by
 obtain⟨b1,b2,_⟩:=Nh fr l;have low:∀{L},Fb (counted fr l) s v L→∃L',L'≤L∧Fb (kx fr l) s v L':=fun hr=>hr.leq fun e he=>by obtain⟨x,h1,h2⟩:=b2 e he;obtain⟨e',m,e1,e2,e3⟩:=Hv h1;exact⟨e',m,e1,e2,by omega⟩
 rcases h with⟨e,h1⟩|⟨L,e,hM,h1,h2⟩
 ·refine .inl ⟨e,fun L hL=>?_⟩;obtain⟨L',_,Ni⟩:=low hL;exact h1 L' Ni
 ·refine .inr ⟨L,e,hM,h1.mem b1,fun L' hL=>?_⟩;obtain⟨L'',l1,l2⟩:=low hL;exact Nat.le_trans (h2 L'' l2) l1
theorem uu{fr:Bool}{l:List Fp}{e:Ed}(h:e∈counted fr l):∃p∈l,p.ed=e:=by unfold counted at h;obtain⟨p,hp,rfl⟩:=List.mem_map.1 h;exact⟨p,(List.mem_filter.1 hp).1,rfl⟩
theorem Nj(l:List Fp)(n B:Nat)(hn:n≤64)(hl:l.length≤4096)(hB:B≤1073741824)(h:∀p∈l,p.a<n∧p.b<n∧p.c≤B)(fr:Bool):∃D:Nat→Nat→Int,(∀s v,s<n→v<n→KS (counted fr l) (B*n) s v (D s v))∧cv [.rs 4 (l.map Fp.pv),.int .i64 n,.bool fr]=some (.rs 1 (eU n D)):=by
 obtain⟨b1,b2,b3⟩:=Nh fr l;have hbe:∀y∈kx fr l,y.f<n∧y.t<n∧y.c≤B:=fun y hy=>by obtain⟨p,hp,rfl⟩:=uu (b1 y hy);exact h p hp
 obtain⟨D,d1,d2⟩:=Sf (kx fr l) n B hn (by omega) hB hbe;refine⟨D,fun s v hs hv=>Si (d1 s v hs hv),?_⟩;have e0:ab 4 (.rs 4 (l.map Fp.pv))=some (l.map Fp.pv):=by simp[ab]
 simp only[cv,j6,e0,U,CK,asBool];refine bM (fun k=>((n:Int),fr,l.map Fp.pv,((l.map Fp.pv).length:Int),(k:Int),(kx fr (l.take k)).map lH,())) l.length (fun k hk rec=>?_) (fun rec=>?_) (by unfold rounds;omega) (by simp[kx])
 ·unfold iu;dsimp only;have hg:decide ((k:Int)<((l.map Fp.pv).length:Int))=true:=by simp;omega
  obtain⟨p,hp⟩:∃p,l[k]?=some p:=⟨_,List.getElem?_eq_getElem hk⟩;have CR:(l.map Fp.pv)[k]?=some p.pv:=by rw[List.getElem?_map,hp];rfl
  have htk:l.take (k+1)=l.take k++[p]:=by rw[List.take_add_one,hp];rfl
  have hr7:(bif fr then(asBool (cell p.pv 3)).bind fun b6=>some !b6 else some false)=some (fr&& !p.free):=by rw[fp3];cases fr<;>rfl
  obtain⟨g1,g2⟩:=V4 p.a p.b (kx fr (l.take k));rw[if_pos hg,az,CR,U,hr7,U,an (by omega),htk,D2];unfold Ng;by_cases hf:(fr&& !p.free)=true
  ·rw[if_pos hf,if_pos hf]
  ·rw[if_neg hf,if_neg hf];simp only[fp0,fp1,fp2,CK,U,g1,g2];cases hb:xx p.a p.b (kx fr (l.take k))with
   |none=>simp only[Option.isSome_none,Bool.not_false,cond_true,U,if_true];rw[show(p.c:Int)=((p.ed.c:Nat):Int)from rfl,show(p.a:Int)=((p.ed.f:Nat):Int)from rfl,show(p.b:Int)=((p.ed.t:Nat):Int)from rfl,XY]
   |some x=>
    simp only[Option.isSome_some,Bool.not_true,cond_false,U,Option.getD_some];by_cases hx:p.c<x
    ·have hd:decide ((p.c:Int)<(x:Int))=true:=by simp;omega
     simp only[hd,if_true,if_pos hx];rw[show(p.c:Int)=((p.ed.c:Nat):Int)from rfl,show(p.a:Int)=((p.ed.f:Nat):Int)from rfl,show(p.b:Int)=((p.ed.t:Nat):Int)from rfl,XY]
    ·have hd:decide ((p.c:Int)<(x:Int))=false:=by simp;omega
     simp only[hd,Bool.false_eq_true,if_false,if_neg hx]
 ·unfold iu;dsimp only;have P5:((kx fr (l.take l.length)).map lH).length≤maxLen:=by
   rw[List.take_length,List.length_map];have:(4096:Nat)≤maxLen:=by decide
   omega
  have ev:(0:Int)≤0∧0≤((((kx fr (l.take l.length)).map lH).length:Nat):Int)∧((((kx fr (l.take l.length)).map lH).length:Nat):Int).toNat*24≤aa∧0<24∧0<3:=by refine⟨by omega,by omega,?_,by omega,by omega⟩;rw[Int.toNat_natCast,List.take_length,List.length_map];unfold aa;omega
  rw[if_neg (by simp),if_pos P5,if_pos ev,List.take_length,kT];have hp:=Pe hn (.rs 1 (eU n D)) (fun acc=>(∀y,y∈kx fr l↔y∈acc)∧acc.length≤4096) (fun acc⟨h1,h2⟩=>⟨_,Sg (kx fr l) acc n B hn h2 hB hbe h1 d1,rfl⟩) (kx fr l) [] rounds (by unfold rounds;omega) (by simp;omega) (fun l' h1 h2=>⟨fun y=>by rw[h1];simp,by rw[h2];simp;omega⟩);exact hp
end Go.Ab.Nw
namespace Go.Ab.Nw
abbrev Mx:=Nat→Nat→Nat
def Fi(d:Mx)(i j x:Nat):Mx:=fun a b=>if a=i∧b=j then x else d a b
def dj(k i:Nat)(d:Mx):Nat→Mx
 |0=>d
 |j+1=>Fi (dj k i d j) i j (min (dj k i d j i j) (dj k i d j i k+dj k i d j k j))
def di(n k:Nat)(d:Mx):Nat→Mx
 |0=>d
 |i+1=>dj k i (di n k d i) n
def dk(n:Nat)(d:Mx):Nat→Mx
 |0=>d
 |k+1=>di n k (dk n d k) n
structure Pf(w:Nat→Nat→Nat→Prop)(inf n k i j:Nat)(d:Mx):Prop where
 fw:Fw w inf n d
 kL:∀a b,a<n→b<n→pk w k a b (d a b)
 new:∀a b,a<n→b<n→(a<i∨(a=i∧b<j))→pk w (k+1) a b (d a b)
variable {w:Nat→Nat→Nat→Prop} {inf n:Nat}
theorem pk.le{k i j x y:Nat}(h:pk w k i j x)(hy:y≤x):pk w k i j y:=fun L hL=>Nat.le_trans hy (h L hL)
theorem Pf.cell{k i j:Nat}{d:Mx}(h:Pf w inf n k i j d)(hi:i<n)(hj:j<n)(hk:k<n):Pf w inf n k i (j+1) (Fi d i j (min (d i j) (d i k+d k j))):=by
 obtain⟨h1,h2,h3⟩:=UH h.fw hi hj hk (x:=min (d i j) (d i k+d k j)) rfl (d':=Fi d i j (min (d i j) (d i k+d k j))) (fun a b=>rfl);refine⟨h1,fun a b ha hb=>(h.kL a b ha hb).le (h2 a b),fun a b ha hb hd=>?_⟩;by_cases e:a=i∧b=j
 ·obtain⟨rfl,rfl⟩:=e;exact h3 (h.kL _ _ ha hk) (h.kL _ _ hk hb) (h.kL _ _ ha hb)
 ·exact(h.new a b ha hb (by omega)).le (h2 a b)
theorem Pf.row{k i:Nat}{d:Mx}(h:Pf w inf n k i 0 d)(hi:i<n)(hk:k<n):∀j,j≤n→Pf w inf n k i j (dj k i d j)
 |0,_=>h
 |j+1,hj=>(Pf.row h hi hk j (by omega)).cell hi (by omega) hk
theorem Pf.rows{k:Nat}{d:Mx}(h:Pf w inf n k 0 0 d)(hk:k<n):∀i,i≤n→Pf w inf n k i 0 (di n k d i)
 |0,_=>h
 |i+1,hi=>by have:=(Pf.rows h hk i (by omega)).row (by omega) hk n (Nat.le_refl _);exact⟨this.fw,this.kL,fun a b ha hb hd=>this.new a b ha hb (by omega)⟩
structure Sj(w:Nat→Nat→Nat→Prop)(inf n k:Nat)(d:Mx):Prop where
 fw:Fw w inf n d
 low:∀a b,a<n→b<n→pk w k a b (d a b)
theorem Sj.rounds{d:Mx}(h:Sj w inf n 0 d):∀k,k≤n→Sj w inf n k (dk n d k)
 |0,_=>h
 |k+1,hk=>by have ih:=Sj.rounds h k (by omega);have:=Pf.rows (k:=k) ⟨ih.fw,ih.low,fun a b ha hb hd=>by omega⟩ (by omega) n (Nat.le_refl _);exact⟨this.fw,fun a b ha hb=>this.new a b ha hb (.inl ha)⟩
def Nk(inf:Nat):Mx:=fun _ _=>inf
def lay(d:Mx)(e:Ed):Mx:=Fi d e.f e.t (min (d e.f e.t) e.c)
def start(inf:Nat)(E:List Ed):Mx:=E.foldl lay (Nk inf)
theorem Cr(inf:Nat)(E:List Ed)(e:Ed):start inf (E++[e])=lay (start inf E) e:=by simp[start]
theorem Sk(E:List Ed):(∀i j,start inf E i j≤inf)∧(∀i j,start inf E i j<inf→(⟨i,j,start inf E i j⟩:Ed)∈E)∧∀e∈E,start inf E e.f e.t≤e.c:=by
 rw[←List.reverse_reverse E];induction E.reverse with
 |nil=>exact⟨fun i j=>Nat.le_refl _,fun i j h=>by simp[start,Nk]at h,fun e h=>by cases h⟩
 |cons e l ih=>
  rw[List.reverse_cons,Cr];obtain⟨i1,i2,i3⟩:=ih;have hl:∀a b,lay (start inf l.reverse) e a b=if a=e.f∧b=e.t then min (start inf l.reverse e.f e.t) e.c else start inf l.reverse a b:=fun a b=>rfl;refine⟨fun a b=>?_,fun a b h=>?_,fun z hz=>?_⟩
  ·rw[hl];split
   ·have:=i1 e.f e.t;omega
   ·exact i1 a b
  ·rw[hl]at h⊢;split
   ·rename_i hk;rw[if_pos hk]at h;by_cases hm:start inf l.reverse e.f e.t≤e.c
    ·rw[show min (start inf l.reverse e.f e.t) e.c=start inf l.reverse e.f e.t by omega]at h⊢;rw[hk.1,hk.2];exact List.mem_append_left _ (i2 _ _ h)
    ·rw[show min (start inf l.reverse e.f e.t) e.c=e.c by omega,hk.1,hk.2];simp
   ·rename_i hk;rw[if_neg hk]at h;exact List.mem_append_left _ (i2 a b h)
  ·rw[hl];rcases List.mem_append.1 hz with hz|hz
   ·have:=i3 z hz;split
    ·rename_i hk;rw[hk.1,hk.2]at this;omega
    ·exact this
   ·simp at hz;subst hz;rw[if_pos ⟨rfl,rfl⟩];omega
theorem Cs(E:List Ed):Sj (ew E) inf n 0 (start inf E):=by obtain⟨h1,h2,h3⟩:=Sk (inf:=inf) E;exact⟨⟨fun i j _ _=>h1 i j,fun i j _ _ h=>.Co (h2 i j h)⟩,fun a b _ _ L hL=>h3 ⟨a,b,L⟩ hL⟩
theorem UO{E:List Ed}{M:Nat}(hE:∀y∈E,y.f<n∧y.t<n)(hM:M<inf){i j:Nat}(hi:i<n)(hj:j<n)(N7:i≠j){D:Int}(hD:KS E M i j D):(D= -1∧dk n (start inf E) n i j=inf)∨(D=(dk n (start inf E) n i j:Int)∧dk n (start inf E) n i j≤M):=by
 have hd:=(Cs (n:=n) (inf:=inf) E).rounds n (Nat.le_refl _);have rch:∀L,Fb E i j L↔jx (ew E) i j L:=fun L=>⟨fun h=>by rcases h with⟨h,_⟩|h;exact absurd h.symm N7;exact h,.inr⟩;have hs:=UI (w:=ew E) (fun a b c h=>(hE _ h).1) hd.fw hi hj (hd.low i j hi hj) (fun L T3 hw=>by
  rcases hD with⟨_,h⟩|⟨L',_,hle,h1,h2⟩
  ·exact absurd ((rch L).2 hw) (h L)
  ·have:=T3 L' ((rch L').1 h1);omega)
 rcases hD with⟨e,h⟩|⟨L',e,hle,h1,h2⟩
 ·left;refine⟨e,?_⟩;have agA:=hd.fw.top i j hi hj;by_cases bt:dk n (start inf E) n i j<inf
  ·exact absurd ((rch _).2 (hd.fw.real i j hi hj bt)) (h _)
  ·omega
 ·right;have:(if dk n (start inf E) n i j<inf then some (dk n (start inf E) n i j)else none)=some L':=hs.unique ⟨(rch L').1 h1,fun L'' hw=>h2 L'' ((rch L'').2 hw)⟩;split at this
  ·simp only[Option.some.injEq]at this;exact⟨by rw[e,this],by omega⟩
  ·cases this
end Go.Ab.Nw
namespace Go.Ab.Nw
set_option maxRecDepth 100000
set_option linter.unusedVariables false
set_option linter.unusedSimpArgs false
def xy(n:Nat)(r:Nat→Nat):List PV:=(List.range n).map fun j=>.int .i64 (r j)
def ny(n:Nat)(d:Mx):List PV:=(List.range n).map fun i=>.fQ 1 (xy n (d i))
theorem rJ(n:Nat)(d:Mx):(ny n d).length=n:=by simp[ny]
theorem po(n:Nat)(r:Nat→Nat):(xy n r).length=n:=by simp[xy]
theorem rK{n i:Nat}(d:Mx)(h:i<n):(ny n d)[i]?=some (.fQ 1 (xy n (d i))):=by simp[ny,h]
theorem rL{n j:Nat}(r:Nat→Nat)(h:j<n):(xy n r)[j]?=some (.int .i64 (r j)):=by simp[xy,h]
theorem Hx{n i j:Nat}(d:Mx)(x:Nat)(hi:i<n)(hj:j<n):(ny n d).set i (.fQ 1 ((xy n (d i)).set j (.int .i64 x)))=ny n (Fi d i j x):=by
 apply List.ext_getElem?;intro a;rw[List.getElem?_set];by_cases e:i=a
 ·subst e;rw[if_pos rfl,if_pos (by rw[rJ];exact hi),rK _ hi];congr 2;apply List.ext_getElem?;intro b;rw[List.getElem?_set];by_cases e:j=b
  ·subst e;rw[if_pos rfl,if_pos (by rw[po];exact hj),rL _ hj];simp[Fi]
  ·rw[if_neg e];by_cases hb:b<n
   ·rw[rL _ hb,rL _ hb];simp[Fi,Ne.symm e]
   ·rw[List.getElem?_eq_none (by rw[po];omega),List.getElem?_eq_none (by rw[po];omega)]
 ·rw[if_neg e];by_cases ha:a<n
  ·rw[rK _ ha,rK _ ha];congr 2;unfold xy;apply List.map_congr_left;intro b _;simp[Fi,Ne.symm e]
  ·rw[List.getElem?_eq_none (by rw[rJ];omega),List.getElem?_eq_none (by rw[rJ];omega)]
theorem asR(es:List PV):aY 1 (cell (.fQ 1 es) 0)=some es:=rfl
theorem cI(x:Int):cell (.int .i64 x) 0=.int .i64 x:=rfl
theorem aaO(e p:PV):setRow 1 e 0 p=p:=rfl
theorem aaP(q p:PV):setCells 1 q 0 1 p=p:=rfl
theorem UP(a b:Nat)(hb:b≤4398046511104):(if IntKind.i64.wrap (b:Int)<(a:Int)then IntKind.i64.wrap (b:Int)else(a:Int))=((min a b:Nat):Int):=by rw[fB (by omega) (by omega)];split<;>omega
theorem X0(pn:Int×Int×Int×List PV×Unit→Option PV)(n k i:Nat)(d:Mx)(hn:n≤64)(hk:k<n)(hi:i<n)(hd:∀j,j≤n→∀a b,a<n→b<n→dj k i d j a b≤1099511627776):cd.run (iE pn) ((n:Int),(k:Int),(i:Int),0,ny n d,())=pn ((n:Int),(k:Int),IntKind.i64.wrap ((i:Int)+1),ny n (dj k i d n),()):=by
 refine bM (fun j=>((n:Int),(k:Int),(i:Int),(j:Int),ny n (dj k i d j),())) n (fun j hj rec=>?_) (fun rec=>?_) (by unfold rounds;omega) rfl
 ·unfold iE;dsimp only;have hg:decide ((j:Int)<(n:Int))=true:=by simp;omega
  have ii:ag (i:Int) (ny n (dj k i d j)).length:=AH (by rw[rJ];exact hi);have ik:ag (k:Int) (ny n (dj k i d j)).length:=AH (by rw[rJ];exact hk);have ji:ag (j:Int) (xy n (dj k i d j i)).length:=AH (by rw[po];exact hj);have ki:ag (k:Int) (xy n (dj k i d j i)).length:=AH (by rw[po];exact hk);have jk:ag (j:Int) (xy n (dj k i d j k)).length:=AH (by rw[po];exact hj);have b1:=hd j (by omega) i k hi hk;have b2:=hd j (by omega) k j hk hj;have hs:(((dj k i d j i k:Nat):Int)+((dj k i d j k j:Nat):Int))=((dj k i d j i k+dj k i d j k j:Nat):Int):=by omega
  simp only[hg,if_true,if_pos ii,if_pos ik,Int.toNat_natCast,rK _ hi,rK _ hk,U,asR,if_pos ji,if_pos ki,if_pos jk,rL _ hj,rL _ hk,cI,CK,aaO,aaP,hs,UP _ _ (show dj k i d j i k+dj k i d j k j≤4398046511104 by omega),Hx _ _ hi hj,an (show j<9223372036854775807 by omega)];rfl
 ·unfold iE;dsimp only;rw[if_neg (by simp)]
theorem X6(D3:Int×Int×List PV×Unit→Option PV)(n k:Nat)(d:Mx)(hn:n≤64)(hk:k<n)(hd:∀i,i<n→∀j,j≤n→∀a b,a<n→b<n→dj k i (di n k d i) j a b≤1099511627776):cd.run (iF cd D3) ((n:Int),(k:Int),0,ny n d,())=D3 ((n:Int),IntKind.i64.wrap ((k:Int)+1),ny n (di n k d n),()):=by
 refine bM (fun i=>((n:Int),(k:Int),(i:Int),ny n (di n k d i),())) n (fun i hi rec=>?_) (fun rec=>?_) (by unfold rounds;omega) rfl
 ·unfold iF;dsimp only;have hg:decide ((i:Int)<(n:Int))=true:=by simp;omega
  rw[if_pos hg,X0 rec n k i _ hn hk hi (hd i hi),an (by omega)];rfl
 ·unfold iF;dsimp only;rw[if_neg (by simp)]
theorem X7(n:Nat)(d:Mx)(hn:n≤64)(hd:∀k,k<n→∀i,i<n→∀j,j≤n→∀a b,a<n→b<n→dj k i (di n k (dk n d k) i) j a b≤1099511627776):cd.run (iG cd) ((n:Int),0,ny n d,())=some (.rs 1 ((ny n (dk n d n)).map PV.strip)):=by
 refine bM (fun k=>((n:Int),(k:Int),ny n (dk n d k),())) n (fun k hk rec=>?_) (fun rec=>?_) (by unfold rounds;omega) rfl
 ·unfold iG;dsimp only;have hg:decide ((k:Int)<(n:Int))=true:=by simp;omega
  rw[if_pos hg,X6 rec n k _ hn hk (hd k hk),an (by omega)];rfl
 ·unfold iG;dsimp only;rw[if_neg (by simp)]
end Go.Ab.Nw
namespace Go.Ab.Nw
set_option maxRecDepth 100000
set_option linter.unusedVariables false
set_option linter.unusedSimpArgs false
abbrev xz:Nat:=1099511627776
theorem Pg(n:Nat):List.replicate n (PV.fQ 1 (List.replicate n (PV.int .i64 1099511627776)))=ny n (Nk xz):=by
 unfold ny xy Nk;apply List.ext_getElem?;intro i;by_cases hi:i<n
 ·have:(List.range n).map (fun j=>PV.int .i64 ((xz:Nat):Int))=List.replicate n (PV.int .i64 1099511627776):=by
   apply List.ext_getElem?;intro j;by_cases hj:j<n
   ·simp[hj,List.getElem?_replicate]
   ·rw[List.getElem?_eq_none (by simp;omega),List.getElem?_eq_none (by simp;omega)]
  simp only[List.getElem?_replicate,if_pos hi,List.getElem?_map,List.getElem?_range hi,Option.map_some];rw[←this]
 ·rw[List.getElem?_eq_none (by simp;omega),List.getElem?_eq_none (by simp;omega)]
theorem Ph(n:Nat)(d:Mx):(ny n d).map PV.strip=eU n fun i j=>((d i j:Nat):Int):=by unfold ny eU xy rI;rw[List.map_map];rfl
theorem Sl(a b:Nat):(if(b:Int)<(a:Int)then(b:Int)else(a:Int))=((min a b:Nat):Int):=by split<;>omega
theorem Fj(fr:Bool)(l:List Fp)(p:Fp):counted fr (l++[p])=if(fr&& !p.free)=true then counted fr l else counted fr l++[p.ed]:=by
 unfold counted;rw[List.filter_append,List.map_append];cases hb:(fr&& !p.free)with
 |true=>simp only[List.filter_cons,hb,Bool.not_true,Bool.false_eq_true,if_false,List.filter_nil,List.map_nil,if_true,List.append_nil]
 |false=>simp only[List.filter_cons,hb,Bool.not_false,Bool.false_eq_true,if_false,List.filter_nil,List.map_nil,List.map_cons,if_true]
theorem xA(l:List Fp)(n:Nat)(hn:n≤64)(hl:l.length≤4096)(h:∀p∈l,p.a<n∧p.b<n)(fr:Bool):fh [.rs 4 (l.map Fp.pv),.int .i64 n,.bool fr]=some (.rs 1 (eU n fun i j=>((dk n (start xz (counted fr l)) n i j:Nat):Int))):=by
 have e0:ab 4 (.rs 4 (l.map Fp.pv))=some (l.map Fp.pv):=by simp[ab]
 have hE:∀y∈counted fr l,y.f<n∧y.t<n:=fun y hy=>by obtain⟨p,hp,rfl⟩:=uu hy;exact h p hp
 simp only[fh,oT,e0,U,CK,asBool];refine bM (fun i=>(l.map Fp.pv,(n:Int),fr,(i:Int),List.replicate i (PV.fQ 1 (List.replicate n (PV.int .i64 1099511627776))),())) n (fun i hi rec=>?_) (fun rec=>?_) (by unfold rounds;omega) rfl
 ·unfold lI;dsimp only;have hg:decide ((i:Int)<(n:Int))=true:=by simp;omega
  rw[if_pos hg];refine bM (fun j=>(l.map Fp.pv,(n:Int),fr,(i:Int),(j:Int),List.replicate i (PV.fQ 1 (List.replicate n (PV.int .i64 1099511627776))),List.replicate j (PV.int .i64 1099511627776),())) n (fun j hj fg=>?_) (fun fg=>?_) (by unfold rounds;omega) rfl
  ·unfold lJ;dsimp only;have hg:decide ((j:Int)<(n:Int))=true:=by simp;omega
   have Bk:List.replicate j (PV.int .i64 1099511627776)++[PV.int .i64 1099511627776]=List.replicate (j+1) (PV.int .i64 1099511627776):=(List.replicate_succ' ..).symm;rw[if_pos hg];simp only[Bk,List.length_replicate];rw[if_pos (by unfold aa;omega),an (by omega)]
  ·unfold lJ;dsimp only;have Bk:List.replicate i (PV.fQ 1 (List.replicate n (PV.int .i64 1099511627776)))++[PV.fQ 1 (List.replicate n (PV.int .i64 1099511627776))]=List.replicate (i+1) (PV.fQ 1 (List.replicate n (PV.int .i64 1099511627776))):=(List.replicate_succ' ..).symm;rw[if_neg (by simp)];simp only[Bk,List.length_replicate];rw[if_pos (by unfold aa;omega),an (by omega)]
 ·unfold lI;dsimp only;rw[if_neg (by simp),Pg];refine bM (fun k=>(l.map Fp.pv,(n:Int),fr,(k:Int),ny n (start xz (counted fr (l.take k))),())) l.length (fun k hk fg=>?_) (fun fg=>?_) (by unfold rounds;omega) rfl
  ·unfold lK;dsimp only;have hg:decide ((k:Int)<((l.map Fp.pv).length:Int))=true:=by simp;omega
   obtain⟨p,hp⟩:∃p,l[k]?=some p:=⟨_,List.getElem?_eq_getElem hk⟩;have CR:(l.map Fp.pv)[k]?=some p.pv:=by rw[List.getElem?_map,hp];rfl
   have htk:l.take (k+1)=l.take k++[p]:=by rw[List.take_add_one,hp];rfl
   obtain⟨pa,pb⟩:=h p (List.mem_of_getElem? hp);have hr:(bif p.free then some true else some !fr)=some (!(fr&& !p.free)):=by cases p.free<;>cases fr<;>rfl
   rw[if_pos hg,az,CR,U,htk,Fj];simp only[fp3,asBool,U,hr];cases hb:(fr&& !p.free)with
   |true=>simp only[Bool.not_true,Bool.false_eq_true,if_false,if_true,an (show k<9223372036854775807 by omega)]
   |false=>
    obtain⟨d,hd⟩:∃d,d=start xz (counted fr (l.take k)):=⟨_,rfl⟩;have ia:ag (p.a:Int) (ny n d).length:=AH (by rw[rJ];exact pa);have ib:ag (p.b:Int) (xy n (d p.a)).length:=AH (by rw[po];exact pb);have sZ:ny n (start xz (counted fr (l.take k)++[p.ed]))=ny n (Fi d p.a p.b (min (d p.a p.b) p.c)):=by rw[Cr,←hd];rfl
    simp only[Bool.not_false,if_true,Bool.false_eq_true,if_false,sZ,←hd,fp0,fp1,fp2,CK,U,if_pos ia,Int.toNat_natCast,rK _ pa,asR,if_pos ib,rL _ pb,cI,aaO,aaP,Sl,Hx _ _ pa pb,an (show k<9223372036854775807 by omega)]
  ·unfold lK;dsimp only;rw[if_neg (by simp),List.take_length,←Ph];have aaQ:=Cs (n:=n) (inf:=xz) (counted fr l);exact X7 n _ hn fun k hk i hi j hj a b ha hb=>by have ih:=aaQ.rounds k (by omega);have:=(Pf.rows (k:=k) ⟨ih.fw,ih.low,fun a b ha hb hd=>by omega⟩ hk i (by omega)).row hi hk j hj;exact this.fw.top a b ha hb
end Go.Ab.Nw
namespace Go.Ab.Nw
set_option maxRecDepth 100000
set_option linter.unusedVariables false
set_option linter.unusedSimpArgs false
def Tv(i k:Nat)(s:Int)(b:Bool):PV:=.agg [.int .i64 i,.int .i64 k,.int .i64 s,.bool b]
def An(w f:Int)(i k:Nat):List PV:=if i=k∨w>14400 then[]else Tv i k w (f==w)::(if f>w∧f≤14400 then[Tv i k f true]else[])
def uv(n:Nat)(it:Nat→Nat→List PV)(i:Nat):List PV:=(List.range n).flatMap (it i)
def wB(n:Nat)(it:Nat→Nat→List PV)(m:Nat):List PV:=(List.range m).flatMap (uv n it)
theorem yS(n:Nat)(it:Nat→Nat→List PV)(i:Nat):uv (n+1) it i=uv n it i++it i n:=by simp[uv,List.range_succ,List.flatMap_append]
theorem yT(n:Nat)(it:Nat→Nat→List PV)(m:Nat):wB n it (m+1)=wB n it m++uv n it m:=by simp[wB,List.range_succ,List.flatMap_append]
theorem xB{it:Nat→Nat→List PV}(h:∀i k,(it i k).length≤2)(i:Nat):∀k,(uv k it i).length≤2*k
 |0=>by simp[uv]
 |k+1=>by rw[yS,List.length_append];have:=xB h i k;have:=h i k;omega
theorem xp{it:Nat→Nat→List PV}(h:∀i k,(it i k).length≤2)(n:Nat):∀m,(wB n it m).length≤2*n*m
 |0=>by simp[wB]
 |m+1=>by rw[yT,List.length_append,Nat.mul_succ];have:=xp h n m;have:=xB h m n;omega
theorem EZ(w f:Int)(i k:Nat):(An w f i k).length≤2:=by
 unfold An;split
 ·simp
 ·split<;>simp
theorem D4{n k:Nat}(D:Nat→Int)(h:k<n):(rI n D)[k]?=some (.int .i64 (D k)):=by simp[rI,h]
theorem yU{n i:Nat}(D:Nat→Nat→Int)(h:i<n):(eU n D)[i]?=some (.rs 1 (rI n (D i))):=by simp[eU,h]
theorem X8(es:List PV):ab 1 (cell (.rs 1 es) 0)=some es:=by show ab 1 (.rs 1 es)=some es;simp[ab]
theorem rQ{a:List PV}(h:a.length≤16384):a.length*32≤aa∧0<32:=by unfold aa;omega
theorem KT(yV:UQ→Option PV)(n i:Nat)(W F:Nat→Nat→Int)(hn:n≤64)(hi:i<n)(acc:List PV)(aeD:acc.length≤8192):cd.run (jX cd yV) ((n:Int),eU n W,eU n F,(i:Int),0,acc,())=yV ((n:Int),eU n W,eU n F,IntKind.i64.wrap ((i:Int)+1),acc++uv n (fun i k=>An (W i k) (F i k) i k) i,()):=by
 refine bM (fun k=>((n:Int),eU n W,eU n F,(i:Int),(k:Int),acc++uv k (fun i k=>An (W i k) (F i k) i k) i,())) n (fun k hk rec=>?_) (fun rec=>?_) (by unfold rounds;omega) (by simp[uv])
 ·unfold jX;dsimp only;have hg:decide ((k:Int)<(n:Int))=true:=by simp;omega
  rw[yS];have hlen:=xB (it:=fun i k=>An (W i k) (F i k) i k) (fun i k=>EZ _ _ i k) i k;generalize hA:acc++uv k (fun i k=>An (W i k) (F i k) i k) i=A;have hAl:A.length≤8192+128:=by rw[←hA,List.length_append];omega
  rw[←List.append_assoc,hA];simp only[hg,if_true,az,yU _ hi,U,X8,D4 _ hk,cI,CK,an (show k<9223372036854775807 by omega)];generalize W i k=w;generalize F i k=f;by_cases zS:i=k
  ·have hb:((i:Int)==(k:Int))=true:=by simp[zS]
   have hit:An w f i k=[]:=if_pos (.inl zS);simp only[hb,cond_true,U,if_true,hit,List.append_nil]
  ·have hb:((i:Int)==(k:Int))=false:=by rw[beq_eq_false_iff_ne];omega
   simp only[hb,cond_false,U];by_cases hw:w>14400
   ·have hit:An w f i k=[]:=if_pos (.inr hw);simp only[hw,decide_true,if_true,hit,List.append_nil]
   ·have X9:(A++[PV.agg [.int .i64 i,.int .i64 k,.int .i64 w,.bool (f==w)]]).length*32≤aa∧0<32:=rQ (by simp;omega);simp only[hw,decide_false,Bool.false_eq_true,if_false,if_pos X9];by_cases hf:f>w
    ·by_cases hf2:f≤14400
     ·have QQ:(A++[PV.agg [.int .i64 i,.int .i64 k,.int .i64 w,.bool (f==w)]]++[PV.agg [.int .i64 i,.int .i64 k,.int .i64 f,.bool true]]).length*32≤aa∧0<32:=rQ (by simp;omega);have hit:An w f i k=[Tv i k w (f==w),Tv i k f true]:=by unfold An;rw[if_neg (by omega),if_pos ⟨hf,hf2⟩]
      simp only[hf,hf2,decide_true,cond_true,U,if_true,if_pos QQ,hit];rw[List.append_assoc];rfl
     ·have hit:An w f i k=[Tv i k w (f==w)]:=by unfold An;rw[if_neg (by omega),if_neg (by omega)]
      simp only[hf,hf2,decide_true,decide_false,cond_true,U,Bool.false_eq_true,if_false,hit];rfl
    ·have hit:An w f i k=[Tv i k w (f==w)]:=by unfold An;rw[if_neg (by omega),if_neg (by omega)]
     simp only[hf,decide_false,cond_false,U,Bool.false_eq_true,if_false,hit];rfl
 ·unfold jX;dsimp only;rw[if_neg (by simp)]
theorem Hy(n:Nat)(W F:Nat→Nat→Int)(hn:n≤64):cd.run (jY cd) ((n:Int),eU n W,eU n F,0,[],())=some (.rs 4 (wB n (fun i k=>An (W i k) (F i k) i k) n)):=by
 refine bM (fun i=>((n:Int),eU n W,eU n F,(i:Int),wB n (fun i k=>An (W i k) (F i k) i k) i,())) n (fun i hi rec=>?_) (fun rec=>?_) (by unfold rounds;omega) rfl
 ·unfold jY;dsimp only;have hg:decide ((i:Int)<(n:Int))=true:=by simp;omega
  have hlen:=xp (it:=fun i k=>An (W i k) (F i k) i k) (fun i k=>EZ _ _ i k) n i;have hb:2*n*i≤2*64*64:=Nat.mul_le_mul (by omega) (by omega);rw[if_pos hg,KT rec n i W F hn hi _ (by omega),yT,an (by omega)]
 ·unfold jY;dsimp only;rw[if_neg (by simp)]
def pF(n:Nat)(l:List Fp)(fr:Bool)(i j:Nat):Int:=((dk n (start xz (counted fr l)) n i j:Nat):Int)
theorem KU(l:List Fp)(n:Nat)(hn:n≤64)(hl:l.length≤4096)(h:∀p∈l,p.a<n∧p.b<n):fx [.rs 4 (l.map Fp.pv),.int .i64 n]=some (.rs 4 (wB n (fun i k=>An (pF n l false i k) (pF n l true i k) i k) n)):=by
 have e0:ab 4 (.rs 4 (l.map Fp.pv))=some (l.map Fp.pv):=by simp[ab]
 have e1:∀es,ab 1 (.rs 1 es)=some es:=fun es=>by simp[ab]
 simp only[fx,sw,e0,U,CK,xA l n hn hl h false,xA l n hn hl h true,e1];exact Hy n (pF n l false) (pF n l true) hn
end Go.Ab.Nw
namespace Go.Ab.Nw
set_option maxRecDepth 100000
set_option linter.unusedVariables false
set_option linter.unusedSimpArgs false
def IF(w f:Int)(i k:Nat):List PV:=if i=k then[]else(if 0<w∧w≤14400 then[Tv i k w (f==w)]else[])++(if f≠w∧0<f∧f≤14400 then[Tv i k f true]else[])
theorem jx.pos{w:Nat→Nat→Nat→Prop}(h:∀i j c,w i j c→1≤c){i j L:Nat}(hw:jx w i j L):1≤L:=by
 cases hw with
 |Co e=>exact h _ _ _ e
 |snoc _ e=>have:=h _ _ _ e;omega
def pq(M:Nat)(d w:Int):Prop:=(d= -1∧w=(xz:Int))∨(d=w∧1≤w∧w≤M)
theorem aaR{M:Nat}(hM:M<xz){d0 d1 w f:Int}(h0:pq M d0 w)(h1:pq M d1 f)(FW:d1≠-1→d0≠-1∧d0≤d1)(i k:Nat):IF d0 d1 i k=An w f i k:=by
 unfold IF An;by_cases zS:i=k
 ·rw[if_pos zS,if_pos (.inl zS)]
 ·rw[if_neg zS];have hM:(M:Int)<1099511627776:=by have:M<1099511627776:=hM;omega
  have aeE:((xz:Nat):Int)=1099511627776:=rfl;rw[pq,aeE]at h0 h1;rcases h0 with⟨e0,w0⟩|⟨e0,w1,w2⟩
  ·have e1:d1= -1:=by
    by_cases h:d1= -1
    ·exact h
    ·exact absurd e0 (FW h).1
   rw[if_neg (by omega),if_neg (by omega),if_pos (.inr (by omega))];rfl
  ·subst e0;rcases h1 with⟨e1,f0⟩|⟨e1,f1,f2⟩
   ·by_cases hw:d0≤14400
    ·have b1:(d1==d0)=false:=by rw[beq_eq_false_iff_ne];omega
     have b2:(f==d0)=false:=by rw[beq_eq_false_iff_ne];omega
     rw[if_pos ⟨by omega,hw⟩,if_neg (by omega),if_neg (by omega),if_neg (by omega),b1,b2];rfl
    ·rw[if_neg (by omega),if_neg (by omega),if_pos (.inr (by omega))];rfl
   ·subst e1;have hle:=(FW (by omega)).2;by_cases hw:d0≤14400
    ·rw[if_pos ⟨by omega,hw⟩,if_neg (show¬(i=k∨d0>14400) by omega)];by_cases hf:d1>d0∧d1≤14400
     ·rw[if_pos hf,if_pos ⟨by omega,by omega,by omega⟩];rfl
     ·rw[if_neg hf,if_neg (by omega)];rfl
    ·rw[if_neg (by omega),if_neg (by omega),if_pos (.inr (by omega))];rfl
theorem Nl{l:List Fp}{n B:Nat}(hn:n≤64)(hB:B≤1073741824)(h:∀p∈l,p.a<n∧p.b<n∧1≤p.c∧p.c≤B)(fr:Bool){i k:Nat}(hi:i<n)(hk:k<n)(zS:i≠k){d:Int}(hd:KS (counted fr l) (B*n) i k d):pq (B*n) d (pF n l fr i k):=by
 have hE:∀y∈counted fr l,y.f<n∧y.t<n∧1≤y.c:=fun y hy=>by obtain⟨p,hp,rfl⟩:=uu hy;obtain⟨a,b,c,_⟩:=h p hp;exact⟨a,b,c⟩
 have hM:B*n<xz:=by have:B*n≤1073741824*64:=Nat.mul_le_mul hB hn;show B*n<1099511627776;omega
 rcases UO (inf:=xz) (fun y hy=>⟨(hE y hy).1,(hE y hy).2.1⟩) hM hi hk zS hd with⟨e1,e2⟩|⟨e1,e2⟩
 ·exact .inl ⟨e1,by unfold pF;rw[e2]⟩
 ·refine .inr ⟨e1,?_,by unfold pF;omega⟩;rcases hd with⟨e,_⟩|⟨L,e,_,hr,_⟩
  ·omega
  ·have:1≤L:=by
    rcases hr with⟨h,_⟩|hw
    ·exact absurd h.symm zS
    ·exact hw.pos fun a b c hc=>(hE _ hc).2.2
   unfold pF;omega
theorem UR{l:List Fp}{M i k:Nat}{d0 d1:Int}(h0:KS (counted false l) M i k d0)(h1:KS (counted true l) M i k d1)(cR:d1≠-1):d0≠-1∧d0≤d1:=by
 have sub:∀y,y∈counted true l→y∈counted false l:=fun y hy=>by unfold counted at hy⊢;obtain⟨p,hp,rfl⟩:=List.mem_map.1 hy;exact List.mem_map.2 ⟨p,List.mem_filter.2 ⟨(List.mem_filter.1 hp).1,rfl⟩,rfl⟩
 rcases h1 with⟨e,_⟩|⟨L1,e1,_,r1,_⟩
 ·exact absurd e cR
 ·have r:=r1.mem sub;rcases h0 with⟨_,h⟩|⟨L0,e0,_,_,m0⟩
  ·exact absurd r (h L1)
  ·have:=m0 L1 r;omega
end Go.Ab.Nw
namespace Go.Ab.Nw
set_option maxRecDepth 100000
set_option linter.unusedVariables false
set_option linter.unusedSimpArgs false
theorem Nn(w f:Int)(i k:Nat):(IF w f i k).length≤2:=by
 unfold IF;split
 ·simp
 ·rw[List.length_append];split<;>split<;>simp
theorem Pj(yV:TY8→Option PV)(n i:Nat)(W F:Nat→Nat→Int)(hn:n≤64)(hi:i<n)(acc:List PV)(aeD:acc.length≤8192):cd.run (gj cd yV) (eU n W,eU n F,(i:Int),(n:Int),(i:Int),rI n (W i),(n:Int),0,acc,())=yV (eU n W,eU n F,(n:Int),IntKind.i64.wrap ((i:Int)+1),acc++uv n (fun i k=>IF (W i k) (F i k) i k) i,()):=by
 refine bM (fun k=>(eU n W,eU n F,(i:Int),(n:Int),(i:Int),rI n (W i),(n:Int),(k:Int),acc++uv k (fun i k=>IF (W i k) (F i k) i k) i,())) n (fun k hk rec=>?_) (fun rec=>?_) (by unfold rounds;omega) (by simp[uv])
 ·unfold gj;dsimp only;have hg:decide ((k:Int)<(n:Int))=true:=by simp;omega
  rw[yS];have hlen:=xB (it:=fun i k=>IF (W i k) (F i k) i k) (fun i k=>Nn _ _ i k) i k;generalize hA:acc++uv k (fun i k=>IF (W i k) (F i k) i k) i=A;have hAl:A.length≤8192+128:=by rw[←hA,List.length_append];omega
  rw[←List.append_assoc,hA];simp only[hg,if_true,az,D4 _ hk,yU _ hi,U,X8,cI,CK,an (show k<9223372036854775807 by omega)];generalize W i k=w;generalize F i k=f;by_cases zS:i=k
  ·have hb:((i:Int)==(k:Int))=true:=by simp[zS]
   have hit:IF w f i k=[]:=if_pos zS;simp only[hb,if_true,hit,List.append_nil]
  ·have hb:((i:Int)==(k:Int))=false:=by rw[beq_eq_false_iff_ne];omega
   have hand:∀x:Int,(bif decide (x>0)then some (decide (x≤14400))else some false)=some (decide (0<x∧x≤14400)):=fun x=>by
    by_cases h1:x>0
    ·have:(0<x∧x≤14400)↔x≤14400:=⟨fun h=>h.2,fun h=>⟨h1,h⟩⟩;rw[decide_eq_true h1,cond_true,decide_eq_decide.2 this.symm]
    ·have:¬(0<x∧x≤14400):=fun h=>h1 h.1;rw[decide_eq_false h1,cond_false,decide_eq_false this]
   have X9:(A++[PV.agg [.int .i64 i,.int .i64 k,.int .i64 w,.bool (f==w)]]).length*32≤aa∧0<32:=rQ (by simp;omega);have QQ:(A++[PV.agg [.int .i64 i,.int .i64 k,.int .i64 w,.bool (f==w)]]++[PV.agg [.int .i64 i,.int .i64 k,.int .i64 f,.bool true]]).length*32≤aa∧0<32:=rQ (by simp;omega);have Ub:(A++[PV.agg [.int .i64 i,.int .i64 k,.int .i64 f,.bool true]]).length*32≤aa∧0<32:=rQ (by simp;omega);have cR:(f !=w)=decide (f≠w):=by
    by_cases h:f=w
    ·simp[h]
    ·simp[h]
   have hit:IF w f i k=(if 0<w∧w≤14400 then[Tv i k w (f==w)]else[])++(if f≠w∧0<f∧f≤14400 then[Tv i k f true]else[]):=if_neg zS;simp only[hb,Bool.false_eq_true,if_false,hand,U,cR,decide_eq_true_eq,hit,if_pos X9,if_pos QQ,if_pos Ub];by_cases h1:0<w∧w≤14400
   ·by_cases h2:f≠w
    ·by_cases h3:0<f∧f≤14400
     ·rw[if_pos h1,if_pos h2,if_pos h3,if_pos h1,if_pos ⟨h2,h3⟩,List.append_assoc];rfl
     ·rw[if_pos h1,if_pos h2,if_neg h3,if_pos h1,if_neg (fun h=>h3 h.2)];rfl
    ·rw[if_pos h1,if_neg h2,if_pos h1,if_neg (fun h=>h2 h.1)];rfl
   ·by_cases h2:f≠w
    ·by_cases h3:0<f∧f≤14400
     ·rw[if_neg h1,if_pos h2,if_pos h3,if_neg h1,if_pos ⟨h2,h3⟩];rfl
     ·rw[if_neg h1,if_pos h2,if_neg h3,if_neg h1,if_neg (fun h=>h3 h.2)];simp
    ·rw[if_neg h1,if_neg h2,if_neg h1,if_neg (fun h=>h2 h.1)];simp
 ·unfold gj;dsimp only;rw[if_neg (by simp)]
theorem KV(n:Nat)(W F:Nat→Nat→Int)(hn:n≤64){es':List PV}(hs:tN 4 (fun c a b=>bq [a,b]) (wB n (fun i k=>IF (W i k) (F i k) i k) n)=some es'):cd.run (gk cd) (eU n W,eU n F,(n:Int),0,[],())=some (.rs 4 es'):=by
 have hlen:∀i,i≤n→(wB n (fun i k=>IF (W i k) (F i k) i k) i).length≤8192:=fun i hi=>by have h1:=xp (it:=fun i k=>IF (W i k) (F i k) i k) (fun i k=>Nn _ _ i k) n i;have hb:2*n*i≤2*64*64:=Nat.mul_le_mul (by omega) (by omega);omega
 refine bM (fun i=>(eU n W,eU n F,(n:Int),(i:Int),wB n (fun i k=>IF (W i k) (F i k) i k) i,())) n (fun i hi rec=>?_) (fun rec=>?_) (by unfold rounds;omega) rfl
 ·unfold gk;dsimp only;have hg:decide ((i:Int)<(n:Int))=true:=by simp;omega
  have Um:((rI n (W i)).length:Int)=(n:Int):=by simp[rI]
  rw[if_pos hg,az,yU _ hi,U,X8,U,Um,Pj rec n i W F hn hi _ (hlen i (by omega)),yT,an (by omega)]
 ·unfold gk;dsimp only;have h:=hlen n (Nat.le_refl _);rw[if_neg (by simp),if_pos (by refine⟨rfl,?_⟩;unfold aa;omega),hs];rfl
end Go.Ab.Nw
namespace Go.Ab.Nw
set_option maxRecDepth 100000
set_option linter.unusedVariables false
set_option linter.unusedSimpArgs false
def kI:PV→Int
 |.int _ n=>n
 |_=>0
def c3(x y:Int):Int:=if x<y then-1 else if x>y then 1 else 0
def or3(a b c:Int):Int:=if a≠0 then a else if b≠0 then b else c
def V5(a b:List PV):Int:=or3 (c3 (kI (a.getD 0 .bad)) (kI (b.getD 0 .bad))) (c3 (kI (a.getD 1 .bad)) (kI (b.getD 1 .bad))) (c3 (kI (a.getD 2 .bad)) (kI (b.getD 2 .bad)))
theorem KW(x y:Int):cW [.int .i64 x,.int .i64 y]=some (.int .i64 (c3 x y)):=by
 have h:∀z:Int,¬(z !=z)=true:=fun z=>by simp
 simp only[cW,np,CK,U,if_neg (h x),if_neg (h y),decide_eq_true_eq];unfold c3;split
 ·rfl
 ·split<;>rfl
theorem aaS(a b c:Int):gN [.rs 1 [.int .i64 a,.int .i64 b,.int .i64 c]]=some (.int .i64 (or3 a b c)):=by
 have e0:ab 1 (.rs 1 [.int .i64 a,.int .i64 b,.int .i64 c])=some [.int .i64 a,.int .i64 b,.int .i64 c]:=by simp[ab]
 simp only[gN,wj,e0,U];obtain⟨es,CJ⟩:∃es,es=[PV.int .i64 a,.int .i64 b,.int .i64 c]:=⟨_,rfl⟩;have hl:((es.length:Nat):Int)=3:=by rw[CJ];rfl
 rw[←CJ];have hb:∀(k:Nat)(x:Int),es[k]?=some (.int .i64 x)→k<3→∀rec,eG (0,es,((es.length:Nat):Int),(k:Int),()) rec=if x≠0 then some (.int .i64 x)else rec (0,es,((es.length:Nat):Int),((k+1:Nat):Int),()):=fun k x hx hk rec=>by
  unfold eG;dsimp only;have hg:decide ((k:Int)<((es.length:Nat):Int))=true:=by rw[hl];simp;omega
  rw[if_pos hg,az,hx,U,cI,CK,U,an (by omega)];by_cases h:x=0
  ·subst h;rfl
  ·have:(x !=0)=true:=by simpa using h
   rw[if_pos this,if_pos h]
 have he:∀rec,eG (0,es,((es.length:Nat):Int),((3:Nat):Int),()) rec=some (.int .i64 0):=fun rec=>by
  unfold eG;dsimp only;have hg:¬decide (((3:Nat):Int)<((es.length:Nat):Int))=true:=by rw[hl];decide
  rw[if_neg hg]
 have hN:rounds=18446744073709551612+1+1+1+1:=rfl;rw[kT,hN];generalize 18446744073709551612=N;show eG (0,es,((es.length:Nat):Int),((0:Nat):Int),()) _=_;rw[hb 0 a (by rw[CJ];rfl) (by omega)];unfold or3;by_cases h1:a≠0
 ·rw[if_pos h1,if_pos h1]
 ·rw[if_neg h1,if_neg h1];show eG (0,es,((es.length:Nat):Int),((1:Nat):Int),()) _=_;rw[hb 1 b (by rw[CJ];rfl) (by omega)];by_cases h2:b≠0
  ·rw[if_pos h2,if_pos h2]
  ·rw[if_neg h2,if_neg h2];show eG (0,es,((es.length:Nat):Int),((2:Nat):Int),()) _=_;rw[hb 2 c (by rw[CJ];rfl) (by omega)];by_cases h3:c≠0
   ·rw[if_pos h3]
   ·rw[if_neg h3];show eG (0,es,((es.length:Nat):Int),((3:Nat):Int),()) _=_;rw[he];have:c=0:=Decidable.not_not.1 h3;rw[this]
def P6(i k:Nat)(s:Int)(b:Bool):List PV:=[.int .i64 i,.int .i64 k,.int .i64 s,.bool b]
theorem Sn(i k:Nat)(s:Int)(b:Bool)(i' k':Nat)(s':Int)(b':Bool):bq [vj (P6 i k s b),vj (P6 i' k' s' b')]=some (.int .i64 (V5 (P6 i k s b) (P6 i' k' s' b'))):=by have a:∀(w x y z:PV),asAgg 4 (.agg [w,x,y,z])=some ():=fun _ _ _ _=>rfl;have a0:∀(w x y z:PV),cell (.agg [w,x,y,z]) 0=w:=fun _ _ _ _=>rfl;have a1:∀(w x y z:PV),cell (.agg [w,x,y,z]) 1=x:=fun _ _ _ _=>rfl;have a2:∀(w x y z:PV),cell (.agg [w,x,y,z]) 2=y:=fun _ _ _ _=>rfl;have a3:∀(w x y z:PV),cell (.agg [w,x,y,z]) 3=z:=fun _ _ _ _=>rfl;simp only[bq,ke,vj,P6,a,a0,a1,a2,a3,CK,asBool,U,KW,aaS];rfl
end Go.Ab.Nw
namespace Go.Ab.Nw
set_option maxRecDepth 100000
set_option linter.unusedVariables false
set_option linter.unusedSimpArgs false
theorem KX(x y:Int):(c3 x y<0↔x<y)∧(c3 x y=0↔x=y):=by unfold c3;split<;>(try split)<;>constructor<;>constructor<;>intro h<;>first|omega|(exfalso;omega)
theorem yW(i k:Nat)(s:Int)(b:Bool)(i' k':Nat)(s':Int)(b':Bool):V5 (P6 i k s b) (P6 i' k' s' b')<0↔i<i'∨(i=i'∧(k<k'∨(k=k'∧s<s'))):=by
 show or3 (c3 (i:Int) (i':Int)) (c3 (k:Int) (k':Int)) (c3 s s')<0↔_;have h1:=KX (i:Int) (i':Int);have h2:=KX (k:Int) (k':Int);have h3:=KX s s';unfold or3;split
 ·constructor<;>intro h<;>omega
 ·split
  ·constructor<;>intro h<;>omega
  ·constructor<;>intro h<;>omega
def IsF(e:List PV):Prop:=∃i k s b,e=P6 i k s b
variable{ns:List (List PV)}
theorem KY(h:ns.Pairwise fun a b=>V5 a b<0):∀a∈ns,∀b∈ns,¬V5 a b<0→¬V5 b a<0→a=b:=by
 induction h with
 |nil=>intro a ha;cases ha
 | @cons x l hx _ ih=>
  intro a ha b hb h1 h2;rcases List.mem_cons.1 ha with ea|Vs
  ·rcases List.mem_cons.1 hb with eb|fR
   ·rw[ea,eb]
   ·rw[ea]at h1;exact absurd (hx b fR) h1
  ·rcases List.mem_cons.1 hb with eb|fR
   ·rw[eb]at h2;exact absurd (hx a Vs) h2
   ·exact ih a Vs b fR h1 h2
theorem Hz(hF:∀e∈ns,IsF e)(h:ns.Pairwise fun a b=>V5 a b<0):jj 4 (fun c a b=>bq [a,b]) ns ns V5 where
 len a ha:=by obtain⟨i,k,s,b,rfl⟩:=hF a ha;rfl
 QM a ha p hp:=by obtain⟨i,k,s,b,rfl⟩:=hF a ha;simp only[P6,List.mem_cons,List.not_mem_nil,or_false]at hp;rcases hp with rfl|rfl|rfl|rfl<;>rfl
 perm:=List.Perm.refl _
 reads c _ _ a ha b hb:=by obtain⟨i,k,s,q,rfl⟩:=hF a ha;obtain⟨i',k',s',q',rfl⟩:=hF b hb;exact Sn ..
 irrefl a ha:=by obtain⟨i,k,s,q,rfl⟩:=hF a ha;rw[yW];omega
 trans a ha b hb c hc h1 h2:=by obtain⟨i,k,s,q,rfl⟩:=hF a ha;obtain⟨i',k',s',q',rfl⟩:=hF b hb;obtain⟨i2,k2,s2,q2,rfl⟩:=hF c hc;rw[yW]at*;omega
 total:=KY h
 sorted:=h.imp_of_mem fun{a b}ha hb qQ=>by obtain⟨i,k,s,q,rfl⟩:=hF a ha;obtain⟨i',k',s',q',rfl⟩:=hF b hb;rw[yW]at*;omega
def Zh(w f:Int)(i k:Nat):List (List PV):=if i=k∨w>14400 then[]else P6 i k w (f==w)::(if f>w∧f≤14400 then[P6 i k f true]else[])
theorem US(w f:Int)(i k:Nat):(Zh w f i k).map vj=An w f i k:=by
 unfold Zh An;split
 ·rfl
 ·split<;>rfl
def CU(n:Nat)(W F:Nat→Nat→Int):List (List PV):=(List.range n).flatMap fun i=>(List.range n).flatMap fun k=>Zh (W i k) (F i k) i k
theorem yL(n:Nat)(W F:Nat→Nat→Int):eE (CU n W F)=wB n (fun i k=>An (W i k) (F i k) i k) n:=by unfold eE CU wB uv;rw[List.map_flatMap];congr 1;funext i;rw[List.map_flatMap];congr 1;funext k;exact US ..
theorem xC{w f:Int}{i k:Nat}{e:List PV}(h:e∈Zh w f i k):∃s b,e=P6 i k s b:=by
 unfold Zh at h;split at h
 ·cases h
 ·rcases List.mem_cons.1 h with rfl|h
  ·exact⟨_,_,rfl⟩
  ·split at h
   ·simp at h;subst h;exact⟨_,_,rfl⟩
   ·cases h
theorem He(n:Nat)(W F:Nat→Nat→Int):∀e∈CU n W F,IsF e:=fun e h=>by obtain⟨i,_,h⟩:=List.mem_flatMap.1 h;obtain⟨k,_,h⟩:=List.mem_flatMap.1 h;obtain⟨s,b,rfl⟩:=xC h;exact⟨i,k,s,b,rfl⟩
theorem HA(n:Nat)(W F:Nat→Nat→Int):(CU n W F).Pairwise fun a b=>V5 a b<0:=by
 unfold CU;rw[List.pairwise_flatMap];refine⟨fun i _=>?_,List.pairwise_lt_range.imp fun{i i'}Dt x hx y hy=>?_⟩
 ·rw[List.pairwise_flatMap];refine⟨fun k _=>?_,List.pairwise_lt_range.imp fun{k k'}yt x hx y hy=>?_⟩
  ·unfold Zh;split
   ·exact .nil
   ·split
    ·rename_i h;refine List.pairwise_cons.2 ⟨fun y hy=>?_,List.pairwise_singleton ..⟩;simp at hy;subst hy;rw[yW];omega
    ·exact List.pairwise_singleton ..
  ·obtain⟨s,b,rfl⟩:=xC hx;obtain⟨s',b',rfl⟩:=xC hy;rw[yW];omega
 ·obtain⟨k,_,hx⟩:=List.mem_flatMap.1 hx;obtain⟨k',_,hy⟩:=List.mem_flatMap.1 hy;obtain⟨s,b,rfl⟩:=xC hx;obtain⟨s',b',rfl⟩:=xC hy;rw[yW];omega
theorem KB(l:List Fp)(n:Nat)(hn:n≤64)(hl:l.length≤4096)(h:∀p∈l,p.a<n∧p.b<n∧1≤p.c∧p.c≤14400):c8 [.rs 4 (l.map Fp.pv),.int .i64 n]=some (.rs 4 (eE (CU n (pF n l false) (pF n l true))))∧fx [.rs 4 (l.map Fp.pv),.int .i64 n]=some (.rs 4 (eE (CU n (pF n l false) (pF n l true)))):=by
 have hr:=KU l n hn hl fun p hp=>⟨(h p hp).1,(h p hp).2.1⟩;rw[←yL]at hr;refine⟨?_,hr⟩;have hB:(14400:Nat)≤1073741824:=by omega
 obtain⟨D0,d0,e0⟩:=Nj l n 14400 hn hl hB (fun p hp=>⟨(h p hp).1,(h p hp).2.1,(h p hp).2.2.2⟩) false;obtain⟨D1,d1,e1⟩:=Nj l n 14400 hn hl hB (fun p hp=>⟨(h p hp).1,(h p hp).2.1,(h p hp).2.2.2⟩) true;have hM:14400*n<xz:=by show 14400*n<1099511627776;omega
 have Jm:wB n (fun i k=>IF (D0 i k) (D1 i k) i k) n=eE (CU n (pF n l false) (pF n l true)):=by
  rw[yL];unfold wB uv;rw[List.flatMap_def,List.flatMap_def];congr 1;apply List.map_congr_left;intro i hi;rw[List.flatMap_def,List.flatMap_def];congr 1;apply List.map_congr_left;intro k hk;have hi:=List.mem_range.1 hi;have hk:=List.mem_range.1 hk;dsimp only;by_cases zS:i=k
  ·rw[show IF (D0 i k) (D1 i k) i k=[]from if_pos zS,show An (pF n l false i k) (pF n l true i k) i k=[]from if_pos (.inl zS)]
  ·exact aaR hM (Nl hn hB h false hi hk zS (d0 i k hi hk)) (Nl hn hB h true hi hk zS (d1 i k hi hk)) (UR (d0 i k hi hk) (d1 i k hi hk)) i k
 have a0:ab 4 (.rs 4 (l.map Fp.pv))=some (l.map Fp.pv):=by simp[ab]
 have a1:∀es,ab 1 (.rs 1 es)=some es:=fun es=>by simp[ab]
 have hlen:((eU n D0).length:Int)=(n:Int):=by simp[eU]
 simp only[c8,mb,a0,CK,U,e0,e1,a1,hlen];exact KV n D0 D1 hn (by rw[Jm];exact OJ (Hz (He _ _ _) (HA _ _ _)))
end Go.Ab.Nw
