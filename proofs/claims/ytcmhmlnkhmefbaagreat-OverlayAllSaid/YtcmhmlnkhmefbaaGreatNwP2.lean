import Derived.Test.YtcmhmlnkhmefbaaGreatNwP1
namespace Go.Ab.Nw
set_option maxRecDepth 100000
set_option linter.unusedVariables false
set_option linter.unusedSimpArgs false
def Ma(E:List Ed)(M:Nat)(s v:Nat)(d:Int):Prop:=(d= -1∧∀L,¬F9 E s v L)∨∃L:Nat,d=L∧L≤M∧F9 E s v L∧∀L',F9 E s v L'→L≤L'
theorem Ma.unique{E:List Ed}{M M' s v:Nat}{d d':Int}(h:Ma E M s v d)(h':Ma E M' s v d'):d=d':=by
 rcases h with⟨e,h⟩|⟨L,e,_,h1,h2⟩
 ·rcases h' with⟨e',_⟩|⟨L',_,_,N6,_⟩
  ·rw[e,e']
  ·exact absurd N6 (h L')
 ·rcases h' with⟨_,h'⟩|⟨L',e',_,N6,PD⟩
  ·exact absurd h1 (h' L)
  ·rw[e,e',Nat.le_antisymm (h2 _ N6) (PD _ h1)]
theorem F9.mem{E E':List Ed}(h:∀y,y∈E→y∈E'){s v L:Nat}(hr:F9 E s v L):F9 E' s v L:=by
 rcases hr with hr|hr
 ·exact .inl hr
 ·exact .inr (hr.mono fun i j c hc=>h _ hc)
theorem Ma.mem{E E':List Ed}(h:∀y,y∈E↔y∈E'){M s v:Nat}{d:Int}(hd:Ma E M s v d):Ma E' M s v d:=by
 rcases hd with⟨e,h1⟩|⟨L,e,hM,h1,h2⟩
 ·exact .inl ⟨e,fun L hL=>h1 L (hL.mem fun y hy=>(h y).2 hy)⟩
 ·exact .inr ⟨L,e,hM,h1.mem fun y hy=>(h y).1 hy,fun L' hL=>h2 L' (hL.mem fun y hy=>(h y).2 hy)⟩
def rX(n:Nat)(D:Nat→Int):List PV:=(List.range n).map fun v=>.int .i64 (D v)
def eU(n:Nat)(D:Nat→Nat→Int):List PV:=(List.range n).map fun s=>.rs 1 (rX n (D s))
variable{D:Nat→Nat→Int}
theorem Ik{n:Nat}{D':Nat→Nat→Int}(h:∀s v,s<n→v<n→D s v=D' s v):eU n D=eU n D':=by unfold eU;apply List.map_congr_left;intro s hs;unfold rX;congr 1;apply List.map_congr_left;intro v hv;rw[h s v (List.mem_range.1 hs) (List.mem_range.1 hv)]
theorem TH(E:List Ed)(n B:Nat)(hn:n≤64)(hE:E.length≤4096)(hB:B≤1073741824)(h:∀y∈E,y.f<n∧y.t<n∧y.c≤B):∃D:Nat→Nat→Int,(∀s v,s<n→v<n→Ma E (B*n) s v (D s v))∧dR [.int .i64 n,.rs 3 (E.map Ed.pv)]=some (.aZ [.rs 1 (eU n D),.int .i64 0]):=by
 have h':∀y∈E,y.f<n∧y.t<n∧y.c≤1073741824:=fun y hy=>⟨(h y hy).1,(h y hy).2.1,by have:=(h y hy).2.2;omega⟩;have hG:=TG E n hn hE h';have each:∀s,∃o:mH,s<n→(∃pu,DI E n s B o pu [])∧dr [.int .i64 n,.rm 3 ((EN (vP E)).map fun x=>x.1) ((EN (vP E)).map fun x=>x.2.ml),.int .i64 s]=some (.rs 3 (dJ n o)):=fun s=>by
  by_cases hs:s<n
  ·obtain⟨o,pu,h1,h2⟩:=Qx hG hs hB (fun y hy=>(h y hy).2.2) hn;exact⟨o,fun _=>⟨⟨pu,h1⟩,h2⟩⟩
  ·exact⟨fun _=>none,fun h=>absurd h hs⟩
 obtain⟨o,ho⟩:=Classical.axiomOfChoice each;refine⟨fun s v=>Gc (o s v),fun s v hs hv=>?_,?_⟩
 ·obtain⟨⟨pu,hI⟩,_⟩:=ho s hs;have:=hI.done h hv;cases hl:o s v with
  |none=>rw[hl]at this;exact .inl ⟨by dsimp only;rw[hl];rfl,this⟩
  |some p=>obtain⟨L,e⟩:=p;rw[hl]at this;exact .inr ⟨L,by dsimp only;rw[hl];rfl,this.1,this.2.1,this.2.2⟩
 ·have e0:ab 3 (.rs 3 (E.map Ed.pv))=some (E.map Ed.pv):=by simp[ab]
  have dh:(0:Int)≤(n:Int)∧(n:Int)≤(n:Int)∧n*24≤aa∧0<24∧0<1:=by refine⟨by omega,by omega,?_,by omega,by omega⟩;unfold aa;omega
  have hz:((0:Int) !=0)=false:=rfl;simp only[dR,sO,Du,e0,U,TE E n hn hE h',hz,Bool.false_eq_true,if_false,Gf E hE,dP,if_true,Int.toNat_natCast,if_pos dh,List.length_replicate];refine bp (fun k=>((n:Int),PV.rm 3 ((EN (vP E)).map fun x=>x.1) ((EN (vP E)).map fun x=>x.2.ml),(n:Int),(k:Int),qF n k (fun s=>.rs 1 (rX n fun v=>Gc (o s v))) (.rs 0 []),())) n (fun k hk rec=>?_) (fun rec=>?_) (by unfold rounds;omega) ?_
  ·unfold kc;dsimp only;have hg:decide ((k:Int)<(n:Int))=true:=by simp;omega
   have e3:ab 3 (.rs 3 (dJ n (o k)))=some (dJ n (o k)):=by simp[ab]
   have e1:ab 1 (.rs 1 ((List.range n).map fun v=>PV.int .i64 (Gc (o k v))))=some ((List.range n).map fun v=>PV.int .i64 (Gc (o k v))):=by simp[ab]
   rw[if_pos hg,(ho k hk).2,U,e3,U,L9 n hn,U,e1,U,if_pos (Bh (by rw[Ig];exact hk)),Int.toNat_natCast,Ih hk,U,ak (by omega)];have:=Ii (F:=fun s=>PV.rs 1 (rX n fun v=>Gc (o s v))) (z:=.rs 0 []) hk;unfold rX at this⊢;rw[this]
  ·unfold kc;dsimp only;rw[if_neg (by simp),Ij];rfl
  ·rw[EM];rfl
theorem TI(E E':List Ed)(n B:Nat)(hn:n≤64)(hE:E'.length≤4096)(hB:B≤1073741824)(h:∀y∈E,y.f<n∧y.t<n∧y.c≤B)(he:∀y,y∈E↔y∈E')(hD:∀s v,s<n→v<n→Ma E (B*n) s v (D s v)):dR [.int .i64 n,.rs 3 (E'.map Ed.pv)]=some (.aZ [.rs 1 (eU n D),.int .i64 0]):=by obtain⟨D',d1,d2⟩:=TH E' n B hn hE hB fun y hy=>h y ((he y).2 hy);rw[d2,Ik fun s v hs hv=>((hD s v hs hv).mem he).unique (d1 s v hs hv)]
end Go.Ab.Nw
namespace Go.Ab.Nw
set_option maxRecDepth 100000
set_option linter.unusedVariables false
set_option linter.unusedSimpArgs false
structure Fp where
 a:Nat
 b:Nat
 c:Nat
 free:Bool
 deriving DecidableEq
def Fp.pv(p:Fp):PV:=.agg [.int .i64 p.a,.int .i64 p.b,.int .i64 p.c,.bool p.free]
theorem fp0(p:Fp):cell p.pv 0=.int .i64 p.a:=rfl
theorem fp1(p:Fp):cell p.pv 1=.int .i64 p.b:=rfl
theorem fp2(p:Fp):cell p.pv 2=.int .i64 p.c:=rfl
theorem fp3(p:Fp):cell p.pv 3=.bool p.free:=rfl
def Fp.ed(p:Fp):Ed:=⟨p.a,p.b,p.c⟩
def wY(z:Ed):List Ed→List Ed
 |[]=>[z]
 |e::r=>if z.f=e.f∧z.t=e.t then z::r else e::wY z r
def xV(a b:Nat):List Ed→Option Nat
 |[]=>none
 |e::r=>if a=e.f∧b=e.t then some e.c else xV a b r
theorem CX(a b:Nat)(z:Ed):∀m,xV a b (wY z m)=if a=z.f∧b=z.t then some z.c else xV a b m
 |[]=>rfl
 |e::r=>by
  simp only[wY];by_cases h:z.f=e.f∧z.t=e.t
  ·rw[if_pos h];simp only[xV];by_cases h2:a=z.f∧b=z.t
   ·rw[if_pos h2,if_pos h2]
   ·rw[if_neg h2,if_neg h2,if_neg (by rw[←h.1,←h.2];exact h2)]
  ·rw[if_neg h];simp only[xV];by_cases h2:a=e.f∧b=e.t
   ·rw[if_pos h2,if_neg (by rw[h2.1,h2.2];rintro⟨x,y⟩;exact h ⟨x.symm,y.symm⟩),if_pos h2]
   ·rw[if_neg h2,if_neg h2];exact CX a b z r
theorem Il(z e:Ed):∀m,e∈wY z m→e=z∨e∈m
 |[],h=>by simp[wY]at h;exact .inl h
 |x::r,h=>by
  simp only[wY]at h;split at h
  ·rcases List.mem_cons.1 h with h|h
   ·exact .inl h
   ·exact .inr (by simp[h])
  ·rcases List.mem_cons.1 h with h|h
   ·exact .inr (by simp[h])
   ·rcases Il z e r h with h|h
    ·exact .inl h
    ·exact .inr (by simp[h])
theorem Im{a b x:Nat}:∀{m:List Ed},xV a b m=some x→∃e∈m,e.f=a∧e.t=b∧e.c=x
 |[],h=>by cases h
 |e::r,h=>by
  simp only[xV]at h;split at h
  ·rename_i h2;cases h;exact⟨e,by simp,h2.1.symm,h2.2.symm,rfl⟩
  ·obtain⟨e',h1,h2⟩:=Im h;exact⟨e',by simp[h1],h2⟩
theorem Io(z:Ed):∀m,(wY z m).length≤m.length+1
 |[]=>by simp[wY]
 |e::r=>by
  simp only[wY];split
  ·simp
  ·have:=Io z r;simp;omega
def OP(fr:Bool)(m:List Ed)(p:Fp):List Ed:=if(fr&& !p.free)=true then m else match xV p.a p.b m with
 |none=>wY p.ed m
 |some x=>if p.c<x then wY p.ed m else m
def kG(fr:Bool)(l:List Fp):List Ed:=l.foldl (OP fr) []
theorem ES(fr:Bool)(l:List Fp)(p:Fp):kG fr (l++[p])=OP fr (kG fr l) p:=by simp[kG]
def counted(fr:Bool)(l:List Fp):List Ed:=(l.filter fun p=> !(fr&& !p.free)).map Fp.ed
theorem OQ(fr:Bool)(l:List Fp):(∀e∈kG fr l,e∈counted fr l)∧(∀e∈counted fr l,∃x,xV e.f e.t (kG fr l)=some x∧x≤e.c)∧(kG fr l).length≤l.length:=by
 rw[←List.reverse_reverse l];induction l.reverse with
 |nil=>exact⟨(fun e h=>by simp[kG]at h),(fun e h=>by simp[counted]at h),Nat.le_refl _⟩
 |cons p l ih=>
  rw[List.reverse_cons,ES];obtain⟨i1,i2,i3⟩:=ih;have hc:counted fr (l.reverse++[p])=counted fr l.reverse++(if(fr&& !p.free)=true then[]else[p.ed]):=by
   unfold counted;rw[List.filter_append,List.map_append];congr 1;cases hb:(fr&& !p.free)with
   |true=>simp only[List.filter_cons,hb,Bool.not_true,Bool.false_eq_true,if_false,List.filter_nil,List.map_nil,if_true]
   |false=>simp only[List.filter_cons,hb,Bool.not_false,Bool.false_eq_true,if_false,List.filter_nil,List.map_nil,List.map_cons,if_true]
  rw[hc];unfold OP;by_cases h:(fr&& !p.free)=true
  ·rw[if_pos h,if_pos h];exact⟨fun e he=>by simpa using i1 e he,fun e he=>i2 e (by simpa using he),by simp at i3⊢;omega⟩
  ·rw[if_neg h,if_neg h];have put:(∀e∈wY p.ed (kG fr l.reverse),e∈counted fr l.reverse++[p.ed]):=fun e he=>by
    rcases Il _ _ _ he with rfl|he
    ·simp
    ·exact List.mem_append_left _ (i1 e he)
   have len:(wY p.ed (kG fr l.reverse)).length≤(l.reverse++[p]).length:=by have:=Io p.ed (kG fr l.reverse);simp at i3⊢;omega
   cases hb:xV p.a p.b (kG fr l.reverse)with
   |none=>
    refine⟨put,fun e he=>?_,len⟩;rw[CX];by_cases hk:e.f=p.ed.f∧e.t=p.ed.t
    ·rw[if_pos hk];rcases List.mem_append.1 he with he|he
     ·obtain⟨x,h1,_⟩:=i2 e he;rw[hk.1,hk.2]at h1;rw[show p.ed.f=p.a from rfl,show p.ed.t=p.b from rfl,hb]at h1;cases h1
     ·simp at he;subst he;exact⟨_,rfl,Nat.le_refl _⟩
    ·rw[if_neg hk];rcases List.mem_append.1 he with he|he
     ·exact i2 e he
     ·simp at he;subst he;exact absurd ⟨rfl,rfl⟩ hk
   |some x=>
    dsimp only;by_cases hx:p.c<x
    ·rw[if_pos hx];refine⟨put,fun e he=>?_,len⟩;rw[CX];by_cases hk:e.f=p.ed.f∧e.t=p.ed.t
     ·rw[if_pos hk];rcases List.mem_append.1 he with he|he
      ·obtain⟨y,h1,h2⟩:=i2 e he;rw[hk.1,hk.2,show p.ed.f=p.a from rfl,show p.ed.t=p.b from rfl,hb]at h1;cases h1;exact⟨_,rfl,by show p.c≤e.c;omega⟩
      ·simp at he;subst he;exact⟨_,rfl,Nat.le_refl _⟩
     ·rw[if_neg hk];rcases List.mem_append.1 he with he|he
      ·exact i2 e he
      ·simp at he;subst he;exact absurd ⟨rfl,rfl⟩ hk
    ·rw[if_neg hx];refine⟨fun e he=>List.mem_append_left _ (i1 e he),fun e he=>?_,by simp at i3⊢;omega⟩;rcases List.mem_append.1 he with he|he
     ·exact i2 e he
     ·simp at he;subst he;exact⟨x,hb,by show x≤p.c;omega⟩
def lT(e:Ed):PV×PV:=(.agg [.int .i64 e.f,.int .i64 e.t,.bool false],.int .i64 e.c)
theorem abm(a b c d:Nat):cA (PV.agg [.int .i64 a,.int .i64 b,.bool false]).cells (PV.agg [.int .i64 c,.int .i64 d,.bool false]).cells=decide (a=c∧b=d):=by
 have h:∀x y:Nat,((x:Int)==(y:Int))=decide (x=y):=fun x y=>by
  by_cases h:x=y
  ·simp[h]
  ·rw[decide_eq_false h,beq_eq_false_iff_ne];omega
 simp only[PV.cells,cA,peq,Bool.and_true,h,beq_self_eq_true,Bool.decide_and]
theorem XJ(a b:Nat):∀m:List Ed,dI (.agg [.int .i64 a,.int .i64 b,.bool false]) (.int .i64 0) (m.map lT)=.int .i64 (((xV a b m).getD 0:Nat):Int)∧tl (.agg [.int .i64 a,.int .i64 b,.bool false]) (m.map lT)=(xV a b m).isSome
 |[]=>⟨rfl,rfl⟩
 |e::r=>by
  obtain⟨h1,h2⟩:=XJ a b r;simp only[List.map_cons,lT,dI,tl,abm,xV];by_cases h:a=e.f∧b=e.t
  ·simp[h]
  ·simp only[h,decide_false,Bool.false_eq_true,if_false,Bool.false_or];exact⟨h1,h2⟩
theorem ZM(z:Ed):∀m:List Ed,eN (.agg [.int .i64 z.f,.int .i64 z.t,.bool false]) (.int .i64 z.c) (m.map lT)=(wY z m).map lT
 |[]=>rfl
 |e::r=>by
  have ih:=ZM z r;simp only[List.map_cons,eN,wY];rw[show(lT e)=(PV.agg [.int .i64 e.f,.int .i64 e.t,.bool false],PV.int .i64 e.c)from rfl];simp only[abm];by_cases h:z.f=e.f∧z.t=e.t
  ·simp[h,lT]
  ·simp only[h,decide_false,Bool.false_eq_true,if_false,List.map_cons,ih];rfl
theorem B2{R:Type}{n:Nat}{g:Nat→Option R}{r:R}(hn:0<n)(h:∀i,i<n→g i=some r):qv n g=some r:=by unfold qv;have hh:∃r,∀i,i<n→g i=some r:=⟨r,h⟩;rw[dif_pos hh];have:=Classical.choose_spec hh 0 hn;rw[h 0 hn]at this;exact this.symm
theorem Qy{n:Nat}(hn:n≤64)(r:PV)(abn:List Ed→Prop)(nv:∀acc,abn acc→∃D,dR [.int .i64 n,.rs 3 (acc.map Ed.pv)]=some (.aZ [.rs 1 D,.int .i64 0])∧r=.rs 1 D):∀(rem acc:List Ed)(N:Nat),rem.length<N→acc.length+rem.length≤4096→(∀l,(∀y,y∈l↔y∈acc∨y∈rem)→l.length=acc.length+rem.length→abn l)→bW (eu bI) N ((n:Int),acc.map Ed.pv,rem.map lT,())=some r:=by
 intro rem;generalize hk:rem.length=k;induction k generalizing rem with
 |zero=>
  intro acc N hN hl hg;have:rem=[]:=List.eq_nil_of_length_eq_zero hk;subst this;obtain⟨N,rfl⟩:∃m,N=m+1:=⟨N-1,by omega⟩;simp only[bW];unfold eu;dsimp only;rw[if_pos (show(List.map lT []).isEmpty=true from rfl)];obtain⟨D,h1,h2⟩:=nv acc (hg acc (fun y=>by simp) (by simp));have e2:bA 2 (.aZ [.rs 1 D,.int .i64 0])=some [.rs 1 D,.int .i64 0]:=rfl;have e3:ab 1 (.rs 1 D)=some D:=by simp[ab]
  rw[h1,U,e2,U];simp only[List.getD_cons_zero,List.getD_cons_succ,e3,U,Du];rw[h2]
 |succ k ih=>
  intro acc N hN hl hg;obtain⟨N,rfl⟩:∃m,N=m+1:=⟨N-1,by omega⟩;simp only[bW];generalize FL:bW (eu bI) N=rec;unfold eu;dsimp only
  have cQ:¬(rem.map lT).isEmpty=true:=by cases rem with
   |nil=>simp at hk
   |cons _ _=>simp
  rw[if_neg cQ];refine B2 (by simp;omega) fun i hi=>?_;have ny:i<rem.length:=by simpa using hi
  obtain⟨e,he⟩:∃e,rem[i]?=some e:=⟨_,List.getElem?_eq_getElem ny⟩;have DD:(rem.map lT)[i]?=some (lT e):=by rw[List.getElem?_map,he];rfl
  have dh:(acc.map Ed.pv++[PV.agg [.int .i64 e.f,.int .i64 e.t,.int .i64 e.c]]).length*24≤aa∧0<24:=by simp only[List.length_append,List.length_map,List.length_cons,List.length_nil];unfold aa;omega
  have zP:acc.map Ed.pv++[PV.agg [.int .i64 e.f,.int .i64 e.t,.int .i64 e.c]]=(acc++[e]).map Ed.pv:=by simp[Ed.pv]
  have ZN:(rem.map lT).eraseIdx i=(rem.eraseIdx i).map lT:=by apply List.ext_getElem?;intro j;simp only[List.getElem?_eraseIdx,List.getElem?_map];split<;>rfl
  have hle:(rem.eraseIdx i).length=k:=by rw[List.length_eraseIdx];simp[ny];omega
  rw[DD,U];rw[zP]at dh;simp only[lT,ag3,abh,ZK,Du,U,zP,if_pos dh,ZN];rw[←FL];refine ih (rem.eraseIdx i) hle (acc++[e]) N (by omega) (by simp;omega) fun l S1 Hl=>hg l (fun y=>?_) (by rw[Hl];simp;omega);rw[S1];have bO:y∈rem↔y=e∨y∈rem.eraseIdx i:=by
   rw[List.mem_eraseIdx_iff_getElem?];constructor
   ·intro hy;obtain⟨j,hj⟩:=List.getElem?_of_mem hy;by_cases Kb:j=i
    ·subst Kb;rw[he]at hj;exact .inl (Option.some.inj hj).symm
    ·exact .inr ⟨j,Kb,hj⟩
   ·rintro(rfl|⟨j,_,hj⟩)
    ·exact List.mem_of_getElem? he
    ·exact List.mem_of_getElem? hj
  rw[bO];simp only[List.mem_append,List.mem_singleton];constructor
  ·rintro((h|h)|h)
   ·exact .inl h
   ·exact .inr (.inl h)
   ·exact .inr (.inr h)
  ·rintro(h|h|h)
   ·exact .inl (.inl h)
   ·exact .inl (.inr h)
   ·exact .inr h
end Go.Ab.Nw
namespace Go.Ab.Nw
set_option maxRecDepth 100000
set_option linter.unusedVariables false
set_option linter.unusedSimpArgs false
theorem F9.leq{E E':List Ed}(h:∀e∈E,∃e'∈E',e'.f=e.f∧e'.t=e.t∧e'.c≤e.c){s v L:Nat}(hr:F9 E s v L):∃L',L'≤L∧F9 E' s v L':=by
 rcases hr with⟨h1,h2⟩|hr
 ·exact⟨L,Nat.le_refl _,.inl ⟨h1,h2⟩⟩
 ·obtain⟨L',l1,l2⟩:=hr.leq (w':=ew E') fun i j c hc=>by
   obtain⟨e',m,e1,e2,e3⟩:=h _ hc;refine⟨e'.c,e3,?_⟩;unfold ew;have:(⟨i,j,e'.c⟩:Ed)=e':=by have e1:e'.f=i:=e1;have e2:e'.t=j:=e2;rw[←e1,←e2]
   rw[this];exact m
  exact⟨L',l1,.inr l2⟩
theorem TJ{fr:Bool}{l:List Fp}{M s v:Nat}{d:Int}(h:Ma (kG fr l) M s v d):Ma (counted fr l) M s v d:=by
 obtain⟨b1,b2,_⟩:=OQ fr l;have low:∀{L},F9 (counted fr l) s v L→∃L',L'≤L∧F9 (kG fr l) s v L':=fun hr=>hr.leq fun e he=>by obtain⟨x,h1,h2⟩:=b2 e he;obtain⟨e',m,e1,e2,e3⟩:=Im h1;exact⟨e',m,e1,e2,by omega⟩
 rcases h with⟨e,h1⟩|⟨L,e,hM,h1,h2⟩
 ·refine .inl ⟨e,fun L hL=>?_⟩;obtain⟨L',_,hL'⟩:=low hL;exact h1 L' hL'
 ·refine .inr ⟨L,e,hM,h1.mem b1,fun L' hL=>?_⟩;obtain⟨L'',l1,l2⟩:=low hL;exact Nat.le_trans (h2 L'' l2) l1
theorem uV{fr:Bool}{l:List Fp}{e:Ed}(h:e∈counted fr l):∃p∈l,p.ed=e:=by unfold counted at h;obtain⟨p,hp,rfl⟩:=List.mem_map.1 h;exact⟨p,(List.mem_filter.1 hp).1,rfl⟩
theorem OR(l:List Fp)(n B:Nat)(hn:n≤64)(hl:l.length≤4096)(hB:B≤1073741824)(h:∀p∈l,p.a<n∧p.b<n∧p.c≤B)(fr:Bool):∃D:Nat→Nat→Int,(∀s v,s<n→v<n→Ma (counted fr l) (B*n) s v (D s v))∧cu [.rs 4 (l.map Fp.pv),.int .i64 n,.bool fr]=some (.rs 1 (eU n D)):=by
 obtain⟨b1,b2,b3⟩:=OQ fr l;have hbe:∀y∈kG fr l,y.f<n∧y.t<n∧y.c≤B:=fun y hy=>by obtain⟨p,hp,rfl⟩:=uV (b1 y hy);exact h p hp
 obtain⟨D,d1,d2⟩:=TH (kG fr l) n B hn (by omega) hB hbe;refine⟨D,fun s v hs hv=>TJ (d1 s v hs hv),?_⟩;have e0:ab 4 (.rs 4 (l.map Fp.pv))=some (l.map Fp.pv):=by simp[ab]
 simp only[cu,kq,e0,U,Du,asBool];refine bp (fun k=>((n:Int),fr,l.map Fp.pv,((l.map Fp.pv).length:Int),(k:Int),(kG fr (l.take k)).map lT,())) l.length (fun k hk rec=>?_) (fun rec=>?_) (by unfold rounds;omega) (by simp[kG])
 ·unfold iB;dsimp only;have hg:decide ((k:Int)<((l.map Fp.pv).length:Int))=true:=by simp;omega
  obtain⟨p,hp⟩:∃p,l[k]?=some p:=⟨_,List.getElem?_eq_getElem hk⟩;have DD:(l.map Fp.pv)[k]?=some p.pv:=by rw[List.getElem?_map,hp];rfl
  have htk:l.take (k+1)=l.take k++[p]:=by rw[List.take_add_one,hp];rfl
  have hr7:(bif fr then(asBool (cell p.pv 3)).bind fun b6=>some !b6 else some false)=some (fr&& !p.free):=by rw[fp3];cases fr<;>rfl
  obtain⟨g1,g2⟩:=XJ p.a p.b (kG fr (l.take k));rw[if_pos hg,aq,DD,U,hr7,U,ak (by omega),htk,ES];unfold OP;by_cases hf:(fr&& !p.free)=true
  ·rw[if_pos hf,if_pos hf]
  ·rw[if_neg hf,if_neg hf];simp only[fp0,fp1,fp2,Du,U,g1,g2];cases hb:xV p.a p.b (kG fr (l.take k))with
   |none=>simp only[Option.isSome_none,Bool.not_false,cond_true,U,if_true];rw[show(p.c:Int)=((p.ed.c:Nat):Int)from rfl,show(p.a:Int)=((p.ed.f:Nat):Int)from rfl,show(p.b:Int)=((p.ed.t:Nat):Int)from rfl,ZM]
   |some x=>
    simp only[Option.isSome_some,Bool.not_true,cond_false,U,Option.getD_some];by_cases hx:p.c<x
    ·have hd:decide ((p.c:Int)<(x:Int))=true:=by simp;omega
     simp only[hd,if_true,if_pos hx];rw[show(p.c:Int)=((p.ed.c:Nat):Int)from rfl,show(p.a:Int)=((p.ed.f:Nat):Int)from rfl,show(p.b:Int)=((p.ed.t:Nat):Int)from rfl,ZM]
    ·have hd:decide ((p.c:Int)<(x:Int))=false:=by simp;omega
     simp only[hd,Bool.false_eq_true,if_false,if_neg hx]
 ·unfold iB;dsimp only;have S1:((kG fr (l.take l.length)).map lT).length≤maxLen:=by
   rw[List.take_length,List.length_map];have:(4096:Nat)≤maxLen:=by decide
   omega
  have dh:(0:Int)≤0∧0≤((((kG fr (l.take l.length)).map lT).length:Nat):Int)∧((((kG fr (l.take l.length)).map lT).length:Nat):Int).toNat*24≤aa∧0<24∧0<3:=by refine⟨by omega,by omega,?_,by omega,by omega⟩;rw[Int.toNat_natCast,List.take_length,List.length_map];unfold aa;omega
  rw[if_neg (by simp),if_pos S1,if_pos dh,List.take_length,jg];have hp:=Qy hn (.rs 1 (eU n D)) (fun acc=>(∀y,y∈kG fr l↔y∈acc)∧acc.length≤4096) (fun acc⟨h1,h2⟩=>⟨_,TI (kG fr l) acc n B hn h2 hB hbe h1 d1,rfl⟩) (kG fr l) [] rounds (by unfold rounds;omega) (by simp;omega) (fun l' h1 h2=>⟨fun y=>by rw[h1];simp,by rw[h2];simp;omega⟩);exact hp
end Go.Ab.Nw
namespace Go.Ab.Nw
abbrev Mx:=Nat→Nat→Nat
def Gg(d:Mx)(i j x:Nat):Mx:=fun a b=>if a=i∧b=j then x else d a b
def dj(k i:Nat)(d:Mx):Nat→Mx
 |0=>d
 |j+1=>Gg (dj k i d j) i j (min (dj k i d j i j) (dj k i d j i k+dj k i d j k j))
def di(n k:Nat)(d:Mx):Nat→Mx
 |0=>d
 |i+1=>dj k i (di n k d i) n
def dk(n:Nat)(d:Mx):Nat→Mx
 |0=>d
 |k+1=>di n k (dk n d k) n
structure Qz(w:Nat→Nat→Nat→Prop)(inf n k i j:Nat)(d:Mx):Prop where
 fw:Fw w inf n d
 kX:∀a b,a<n→b<n→pU w k a b (d a b)
 new:∀a b,a<n→b<n→(a<i∨(a=i∧b<j))→pU w (k+1) a b (d a b)
variable {w:Nat→Nat→Nat→Prop} {inf n:Nat}
theorem pU.le{k i j x y:Nat}(h:pU w k i j x)(hy:y≤x):pU w k i j y:=fun L hL=>Nat.le_trans hy (h L hL)
theorem Qz.cell{k i j:Nat}{d:Mx}(h:Qz w inf n k i j d)(hi:i<n)(hj:j<n)(hk:k<n):Qz w inf n k i (j+1) (Gg d i j (min (d i j) (d i k+d k j))):=by
 obtain⟨h1,h2,h3⟩:=Wg h.fw hi hj hk (x:=min (d i j) (d i k+d k j)) rfl (d':=Gg d i j (min (d i j) (d i k+d k j))) (fun a b=>rfl);refine⟨h1,fun a b ha hb=>(h.kX a b ha hb).le (h2 a b),fun a b ha hb hd=>?_⟩;by_cases e:a=i∧b=j
 ·obtain⟨rfl,rfl⟩:=e;exact h3 (h.kX _ _ ha hk) (h.kX _ _ hk hb) (h.kX _ _ ha hb)
 ·exact(h.new a b ha hb (by omega)).le (h2 a b)
theorem Qz.row{k i:Nat}{d:Mx}(h:Qz w inf n k i 0 d)(hi:i<n)(hk:k<n):∀j,j≤n→Qz w inf n k i j (dj k i d j)
 |0,_=>h
 |j+1,hj=>(Qz.row h hi hk j (by omega)).cell hi (by omega) hk
theorem Qz.rows{k:Nat}{d:Mx}(h:Qz w inf n k 0 0 d)(hk:k<n):∀i,i≤n→Qz w inf n k i 0 (di n k d i)
 |0,_=>h
 |i+1,hi=>by have:=(Qz.rows h hk i (by omega)).row (by omega) hk n (Nat.le_refl _);exact⟨this.fw,this.kX,fun a b ha hb hd=>this.new a b ha hb (by omega)⟩
structure TK(w:Nat→Nat→Nat→Prop)(inf n k:Nat)(d:Mx):Prop where
 fw:Fw w inf n d
 low:∀a b,a<n→b<n→pU w k a b (d a b)
theorem TK.rounds{d:Mx}(h:TK w inf n 0 d):∀k,k≤n→TK w inf n k (dk n d k)
 |0,_=>h
 |k+1,hk=>by have ih:=TK.rounds h k (by omega);have:=Qz.rows (k:=k) ⟨ih.fw,ih.low,fun a b ha hb hd=>by omega⟩ (by omega) n (Nat.le_refl _);exact⟨this.fw,fun a b ha hb=>this.new a b ha hb (.inl ha)⟩
def OS(inf:Nat):Mx:=fun _ _=>inf
def lay(d:Mx)(e:Ed):Mx:=Gg d e.f e.t (min (d e.f e.t) e.c)
def start(inf:Nat)(E:List Ed):Mx:=E.foldl lay (OS inf)
theorem CY(inf:Nat)(E:List Ed)(e:Ed):start inf (E++[e])=lay (start inf E) e:=by simp[start]
theorem TL(E:List Ed):(∀i j,start inf E i j≤inf)∧(∀i j,start inf E i j<inf→(⟨i,j,start inf E i j⟩:Ed)∈E)∧∀e∈E,start inf E e.f e.t≤e.c:=by
 rw[←List.reverse_reverse E];induction E.reverse with
 |nil=>exact⟨fun i j=>Nat.le_refl _,fun i j h=>by simp[start,OS]at h,fun e h=>by cases h⟩
 |cons e l ih=>
  rw[List.reverse_cons,CY];obtain⟨i1,i2,i3⟩:=ih;have hl:∀a b,lay (start inf l.reverse) e a b=if a=e.f∧b=e.t then min (start inf l.reverse e.f e.t) e.c else start inf l.reverse a b:=fun a b=>rfl;refine⟨fun a b=>?_,fun a b h=>?_,fun z hz=>?_⟩
  ·rw[hl];split
   ·have:=i1 e.f e.t;omega
   ·exact i1 a b
  ·rw[hl]at h⊢;split
   ·rename_i hk;rw[if_pos hk]at h;by_cases hm:start inf l.reverse e.f e.t≤e.c
    ·rw[show min (start inf l.reverse e.f e.t) e.c=start inf l.reverse e.f e.t by omega]at h⊢;rw[hk.1,hk.2];exact List.mem_append_left _ (i2 _ _ h)
    ·rw[show min (start inf l.reverse e.f e.t) e.c=e.c by omega,hk.1,hk.2];simp
   ·rename_i hk;rw[if_neg hk]at h;exact List.mem_append_left _ (i2 a b h)
  ·rw[hl];rcases List.mem_append.1 hz with hz|hz
   ·have:=i3 z hz;split
    ·rename_i hk;rw[hk.1,hk.2]at this;omega
    ·exact this
   ·simp at hz;subst hz;rw[if_pos ⟨rfl,rfl⟩];omega
theorem CZ(E:List Ed):TK (ew E) inf n 0 (start inf E):=by obtain⟨h1,h2,h3⟩:=TL (inf:=inf) E;exact⟨⟨fun i j _ _=>h1 i j,fun i j _ _ h=>.CV (h2 i j h)⟩,fun a b _ _ L hL=>h3 ⟨a,b,L⟩ hL⟩
theorem Wn{E:List Ed}{M:Nat}(hE:∀y∈E,y.f<n∧y.t<n)(hM:M<inf){i j:Nat}(hi:i<n)(hj:j<n)(PB:i≠j){D:Int}(hD:Ma E M i j D):(D= -1∧dk n (start inf E) n i j=inf)∨(D=(dk n (start inf E) n i j:Int)∧dk n (start inf E) n i j≤M):=by
 have hd:=(CZ (n:=n) (inf:=inf) E).rounds n (Nat.le_refl _);have rch:∀L,F9 E i j L↔jD (ew E) i j L:=fun L=>⟨fun h=>by rcases h with⟨h,_⟩|h;exact absurd h.symm PB;exact h,.inr⟩;have hs:=Wh (w:=ew E) (fun a b c h=>(hE _ h).1) hd.fw hi hj (hd.low i j hi hj) (fun L VC hw=>by
  rcases hD with⟨_,h⟩|⟨L',_,hle,h1,h2⟩
  ·exact absurd ((rch L).2 hw) (h L)
  ·have:=VC L' ((rch L').1 h1);omega)
 rcases hD with⟨e,h⟩|⟨L',e,hle,h1,h2⟩
 ·left;refine⟨e,?_⟩;have ahL:=hd.fw.top i j hi hj;by_cases bu:dk n (start inf E) n i j<inf
  ·exact absurd ((rch _).2 (hd.fw.real i j hi hj bu)) (h _)
  ·omega
 ·right;have:(if dk n (start inf E) n i j<inf then some (dk n (start inf E) n i j)else none)=some L':=hs.unique ⟨(rch L').1 h1,fun L'' hw=>h2 L'' ((rch L'').2 hw)⟩;split at this
  ·simp only[Option.some.injEq]at this;exact⟨by rw[e,this],by omega⟩
  ·cases this
end Go.Ab.Nw
namespace Go.Ab.Nw
set_option maxRecDepth 100000
set_option linter.unusedVariables false
set_option linter.unusedSimpArgs false
def xW(n:Nat)(r:Nat→Nat):List PV:=(List.range n).map fun j=>.int .i64 (r j)
def nN(n:Nat)(d:Mx):List PV:=(List.range n).map fun i=>.cK 1 (xW n (d i))
theorem rY(n:Nat)(d:Mx):(nN n d).length=n:=by simp[nN]
theorem pV(n:Nat)(r:Nat→Nat):(xW n r).length=n:=by simp[xW]
theorem rZ{n i:Nat}(d:Mx)(h:i<n):(nN n d)[i]?=some (.cK 1 (xW n (d i))):=by simp[nN,h]
theorem sc{n j:Nat}(r:Nat→Nat)(h:j<n):(xW n r)[j]?=some (.int .i64 (r j)):=by simp[xW,h]
theorem Ip{n i j:Nat}(d:Mx)(x:Nat)(hi:i<n)(hj:j<n):(nN n d).set i (.cK 1 ((xW n (d i)).set j (.int .i64 x)))=nN n (Gg d i j x):=by
 apply List.ext_getElem?;intro a;rw[List.getElem?_set];by_cases e:i=a
 ·subst e;rw[if_pos rfl,if_pos (by rw[rY];exact hi),rZ _ hi];congr 2;apply List.ext_getElem?;intro b;rw[List.getElem?_set];by_cases e:j=b
  ·subst e;rw[if_pos rfl,if_pos (by rw[pV];exact hj),sc _ hj];simp[Gg]
  ·rw[if_neg e];by_cases hb:b<n
   ·rw[sc _ hb,sc _ hb];simp[Gg,Ne.symm e]
   ·rw[List.getElem?_eq_none (by rw[pV];omega),List.getElem?_eq_none (by rw[pV];omega)]
 ·rw[if_neg e];by_cases ha:a<n
  ·rw[rZ _ ha,rZ _ ha];congr 2;unfold xW;apply List.map_congr_left;intro b _;simp[Gg,Ne.symm e]
  ·rw[List.getElem?_eq_none (by rw[rY];omega),List.getElem?_eq_none (by rw[rY];omega)]
theorem asR(es:List PV):aO 1 (cell (.cK 1 es) 0)=some es:=rfl
theorem cI(x:Int):cell (.int .i64 x) 0=.int .i64 x:=rfl
theorem abo(e p:PV):setRow 1 e 0 p=p:=rfl
theorem abp(q p:PV):setCells 1 q 0 1 p=p:=rfl
theorem Wo(a b:Nat)(hb:b≤4398046511104):(if IntKind.i64.wrap (b:Int)<(a:Int)then IntKind.i64.wrap (b:Int)else(a:Int))=((min a b:Nat):Int):=by rw[fF (by omega) (by omega)];split<;>omega
theorem ZO(nm:Int×Int×Int×List PV×Unit→Option PV)(n k i:Nat)(d:Mx)(hn:n≤64)(hk:k<n)(hi:i<n)(hd:∀j,j≤n→∀a b,a<n→b<n→dj k i d j a b≤1099511627776):bI.run (iH nm) ((n:Int),(k:Int),(i:Int),0,nN n d,())=nm ((n:Int),(k:Int),IntKind.i64.wrap ((i:Int)+1),nN n (dj k i d n),()):=by
 refine bp (fun j=>((n:Int),(k:Int),(i:Int),(j:Int),nN n (dj k i d j),())) n (fun j hj rec=>?_) (fun rec=>?_) (by unfold rounds;omega) rfl
 ·unfold iH;dsimp only;have hg:decide ((j:Int)<(n:Int))=true:=by simp;omega
  have ii:ae (i:Int) (nN n (dj k i d j)).length:=Bh (by rw[rY];exact hi);have ik:ae (k:Int) (nN n (dj k i d j)).length:=Bh (by rw[rY];exact hk);have ji:ae (j:Int) (xW n (dj k i d j i)).length:=Bh (by rw[pV];exact hj);have ki:ae (k:Int) (xW n (dj k i d j i)).length:=Bh (by rw[pV];exact hk);have jk:ae (j:Int) (xW n (dj k i d j k)).length:=Bh (by rw[pV];exact hj);have b1:=hd j (by omega) i k hi hk;have b2:=hd j (by omega) k j hk hj;have hs:(((dj k i d j i k:Nat):Int)+((dj k i d j k j:Nat):Int))=((dj k i d j i k+dj k i d j k j:Nat):Int):=by omega
  simp only[hg,if_true,if_pos ii,if_pos ik,Int.toNat_natCast,rZ _ hi,rZ _ hk,U,asR,if_pos ji,if_pos ki,if_pos jk,sc _ hj,sc _ hk,cI,Du,abo,abp,hs,Wo _ _ (show dj k i d j i k+dj k i d j k j≤4398046511104 by omega),Ip _ _ hi hj,ak (show j<9223372036854775807 by omega)];rfl
 ·unfold iH;dsimp only;rw[if_neg (by simp)]
theorem ZP(ET:Int×Int×List PV×Unit→Option PV)(n k:Nat)(d:Mx)(hn:n≤64)(hk:k<n)(hd:∀i,i<n→∀j,j≤n→∀a b,a<n→b<n→dj k i (di n k d i) j a b≤1099511627776):bI.run (iI bI ET) ((n:Int),(k:Int),0,nN n d,())=ET ((n:Int),IntKind.i64.wrap ((k:Int)+1),nN n (di n k d n),()):=by
 refine bp (fun i=>((n:Int),(k:Int),(i:Int),nN n (di n k d i),())) n (fun i hi rec=>?_) (fun rec=>?_) (by unfold rounds;omega) rfl
 ·unfold iI;dsimp only;have hg:decide ((i:Int)<(n:Int))=true:=by simp;omega
  rw[if_pos hg,ZO rec n k i _ hn hk hi (hd i hi),ak (by omega)];rfl
 ·unfold iI;dsimp only;rw[if_neg (by simp)]
theorem ZQ(n:Nat)(d:Mx)(hn:n≤64)(hd:∀k,k<n→∀i,i<n→∀j,j≤n→∀a b,a<n→b<n→dj k i (di n k (dk n d k) i) j a b≤1099511627776):bI.run (iJ bI) ((n:Int),0,nN n d,())=some (.rs 1 ((nN n (dk n d n)).map PV.strip)):=by
 refine bp (fun k=>((n:Int),(k:Int),nN n (dk n d k),())) n (fun k hk rec=>?_) (fun rec=>?_) (by unfold rounds;omega) rfl
 ·unfold iJ;dsimp only;have hg:decide ((k:Int)<(n:Int))=true:=by simp;omega
  rw[if_pos hg,ZP rec n k _ hn hk (hd k hk),ak (by omega)];rfl
 ·unfold iJ;dsimp only;rw[if_neg (by simp)]
end Go.Ab.Nw
namespace Go.Ab.Nw
set_option maxRecDepth 100000
set_option linter.unusedVariables false
set_option linter.unusedSimpArgs false
abbrev xX:Nat:=1099511627776
theorem QA(n:Nat):List.replicate n (PV.cK 1 (List.replicate n (PV.int .i64 1099511627776)))=nN n (OS xX):=by
 unfold nN xW OS;apply List.ext_getElem?;intro i;by_cases hi:i<n
 ·have:(List.range n).map (fun j=>PV.int .i64 ((xX:Nat):Int))=List.replicate n (PV.int .i64 1099511627776):=by
   apply List.ext_getElem?;intro j;by_cases hj:j<n
   ·simp[hj,List.getElem?_replicate]
   ·rw[List.getElem?_eq_none (by simp;omega),List.getElem?_eq_none (by simp;omega)]
  simp only[List.getElem?_replicate,if_pos hi,List.getElem?_map,List.getElem?_range hi,Option.map_some];rw[←this]
 ·rw[List.getElem?_eq_none (by simp;omega),List.getElem?_eq_none (by simp;omega)]
theorem QB(n:Nat)(d:Mx):(nN n d).map PV.strip=eU n fun i j=>((d i j:Nat):Int):=by unfold nN eU xW rX;rw[List.map_map];rfl
theorem TM(a b:Nat):(if(b:Int)<(a:Int)then(b:Int)else(a:Int))=((min a b:Nat):Int):=by split<;>omega
theorem Gh(fr:Bool)(l:List Fp)(p:Fp):counted fr (l++[p])=if(fr&& !p.free)=true then counted fr l else counted fr l++[p.ed]:=by
 unfold counted;rw[List.filter_append,List.map_append];cases hb:(fr&& !p.free)with
 |true=>simp only[List.filter_cons,hb,Bool.not_true,Bool.false_eq_true,if_false,List.filter_nil,List.map_nil,if_true,List.append_nil]
 |false=>simp only[List.filter_cons,hb,Bool.not_false,Bool.false_eq_true,if_false,List.filter_nil,List.map_nil,List.map_cons,if_true]
theorem xY(l:List Fp)(n:Nat)(hn:n≤64)(hl:l.length≤4096)(h:∀p∈l,p.a<n∧p.b<n)(fr:Bool):fk [.rs 4 (l.map Fp.pv),.int .i64 n,.bool fr]=some (.rs 1 (eU n fun i j=>((dk n (start xX (counted fr l)) n i j:Nat):Int))):=by
 have e0:ab 4 (.rs 4 (l.map Fp.pv))=some (l.map Fp.pv):=by simp[ab]
 have hE:∀y∈counted fr l,y.f<n∧y.t<n:=fun y hy=>by obtain⟨p,hp,rfl⟩:=uV hy;exact h p hp
 simp only[fk,pF,e0,U,Du,asBool];refine bp (fun i=>(l.map Fp.pv,(n:Int),fr,(i:Int),List.replicate i (PV.cK 1 (List.replicate n (PV.int .i64 1099511627776))),())) n (fun i hi rec=>?_) (fun rec=>?_) (by unfold rounds;omega) rfl
 ·unfold lU;dsimp only;have hg:decide ((i:Int)<(n:Int))=true:=by simp;omega
  rw[if_pos hg];refine bp (fun j=>(l.map Fp.pv,(n:Int),fr,(i:Int),(j:Int),List.replicate i (PV.cK 1 (List.replicate n (PV.int .i64 1099511627776))),List.replicate j (PV.int .i64 1099511627776),())) n (fun j hj eP=>?_) (fun eP=>?_) (by unfold rounds;omega) rfl
  ·unfold lV;dsimp only;have hg:decide ((j:Int)<(n:Int))=true:=by simp;omega
   have zP:List.replicate j (PV.int .i64 1099511627776)++[PV.int .i64 1099511627776]=List.replicate (j+1) (PV.int .i64 1099511627776):=(List.replicate_succ' ..).symm;rw[if_pos hg];simp only[zP,List.length_replicate];rw[if_pos (by unfold aa;omega),ak (by omega)]
  ·unfold lV;dsimp only;have zP:List.replicate i (PV.cK 1 (List.replicate n (PV.int .i64 1099511627776)))++[PV.cK 1 (List.replicate n (PV.int .i64 1099511627776))]=List.replicate (i+1) (PV.cK 1 (List.replicate n (PV.int .i64 1099511627776))):=(List.replicate_succ' ..).symm;rw[if_neg (by simp)];simp only[zP,List.length_replicate];rw[if_pos (by unfold aa;omega),ak (by omega)]
 ·unfold lU;dsimp only;rw[if_neg (by simp),QA];refine bp (fun k=>(l.map Fp.pv,(n:Int),fr,(k:Int),nN n (start xX (counted fr (l.take k))),())) l.length (fun k hk eP=>?_) (fun eP=>?_) (by unfold rounds;omega) rfl
  ·unfold lW;dsimp only;have hg:decide ((k:Int)<((l.map Fp.pv).length:Int))=true:=by simp;omega
   obtain⟨p,hp⟩:∃p,l[k]?=some p:=⟨_,List.getElem?_eq_getElem hk⟩;have DD:(l.map Fp.pv)[k]?=some p.pv:=by rw[List.getElem?_map,hp];rfl
   have htk:l.take (k+1)=l.take k++[p]:=by rw[List.take_add_one,hp];rfl
   obtain⟨pa,pb⟩:=h p (List.mem_of_getElem? hp);have hr:(bif p.free then some true else some !fr)=some (!(fr&& !p.free)):=by cases p.free<;>cases fr<;>rfl
   rw[if_pos hg,aq,DD,U,htk,Gh];simp only[fp3,asBool,U,hr];cases hb:(fr&& !p.free)with
   |true=>simp only[Bool.not_true,Bool.false_eq_true,if_false,if_true,ak (show k<9223372036854775807 by omega)]
   |false=>
    obtain⟨d,hd⟩:∃d,d=start xX (counted fr (l.take k)):=⟨_,rfl⟩;have ia:ae (p.a:Int) (nN n d).length:=Bh (by rw[rY];exact pa);have ib:ae (p.b:Int) (xW n (d p.a)).length:=Bh (by rw[pV];exact pb);have tx:nN n (start xX (counted fr (l.take k)++[p.ed]))=nN n (Gg d p.a p.b (min (d p.a p.b) p.c)):=by rw[CY,←hd];rfl
    simp only[Bool.not_false,if_true,Bool.false_eq_true,if_false,tx,←hd,fp0,fp1,fp2,Du,U,if_pos ia,Int.toNat_natCast,rZ _ pa,asR,if_pos ib,sc _ pb,cI,abo,abp,TM,Ip _ _ pa pb,ak (show k<9223372036854775807 by omega)]
  ·unfold lW;dsimp only;rw[if_neg (by simp),List.take_length,←QB];have abq:=CZ (n:=n) (inf:=xX) (counted fr l);exact ZQ n _ hn fun k hk i hi j hj a b ha hb=>by have ih:=abq.rounds k (by omega);have:=(Qz.rows (k:=k) ⟨ih.fw,ih.low,fun a b ha hb hd=>by omega⟩ hk i (by omega)).row hi hk j hj;exact this.fw.top a b ha hb
end Go.Ab.Nw
namespace Go.Ab.Nw
set_option maxRecDepth 100000
set_option linter.unusedVariables false
set_option linter.unusedSimpArgs false
def U8(i k:Nat)(s:Int)(b:Bool):PV:=.agg [.int .i64 i,.int .i64 k,.int .i64 s,.bool b]
def AR(w f:Int)(i k:Nat):List PV:=if i=k∨w>14400 then[]else U8 i k w (f==w)::(if f>w∧f≤14400 then[U8 i k f true]else[])
def uW(n:Nat)(it:Nat→Nat→List PV)(i:Nat):List PV:=(List.range n).flatMap (it i)
def wZ(n:Nat)(it:Nat→Nat→List PV)(m:Nat):List PV:=(List.range m).flatMap (uW n it)
theorem zm(n:Nat)(it:Nat→Nat→List PV)(i:Nat):uW (n+1) it i=uW n it i++it i n:=by simp[uW,List.range_succ,List.flatMap_append]
theorem zn(n:Nat)(it:Nat→Nat→List PV)(m:Nat):wZ n it (m+1)=wZ n it m++uW n it m:=by simp[wZ,List.range_succ,List.flatMap_append]
theorem xZ{it:Nat→Nat→List PV}(h:∀i k,(it i k).length≤2)(i:Nat):∀k,(uW k it i).length≤2*k
 |0=>by simp[uW]
 |k+1=>by rw[zm,List.length_append];have:=xZ h i k;have:=h i k;omega
theorem xP{it:Nat→Nat→List PV}(h:∀i k,(it i k).length≤2)(n:Nat):∀m,(wZ n it m).length≤2*n*m
 |0=>by simp[wZ]
 |m+1=>by rw[zn,List.length_append,Nat.mul_succ];have:=xP h n m;have:=xZ h m n;omega
theorem FX(w f:Int)(i k:Nat):(AR w f i k).length≤2:=by
 unfold AR;split
 ·simp
 ·split<;>simp
theorem EU{n k:Nat}(D:Nat→Int)(h:k<n):(rX n D)[k]?=some (.int .i64 (D k)):=by simp[rX,h]
theorem zo{n i:Nat}(D:Nat→Nat→Int)(h:i<n):(eU n D)[i]?=some (.rs 1 (rX n (D i))):=by simp[eU,h]
theorem ZR(es:List PV):ab 1 (cell (.rs 1 es) 0)=some es:=by show ab 1 (.rs 1 es)=some es;simp[ab]
theorem sl{a:List PV}(h:a.length≤16384):a.length*32≤aa∧0<32:=by unfold aa;omega
theorem Mb(zp:Wp→Option PV)(n i:Nat)(W F:Nat→Nat→Int)(hn:n≤64)(hi:i<n)(acc:List PV)(afw:acc.length≤8192):bI.run (ke bI zp) ((n:Int),eU n W,eU n F,(i:Int),0,acc,())=zp ((n:Int),eU n W,eU n F,IntKind.i64.wrap ((i:Int)+1),acc++uW n (fun i k=>AR (W i k) (F i k) i k) i,()):=by
 refine bp (fun k=>((n:Int),eU n W,eU n F,(i:Int),(k:Int),acc++uW k (fun i k=>AR (W i k) (F i k) i k) i,())) n (fun k hk rec=>?_) (fun rec=>?_) (by unfold rounds;omega) (by simp[uW])
 ·unfold ke;dsimp only;have hg:decide ((k:Int)<(n:Int))=true:=by simp;omega
  rw[zm];have hlen:=xZ (it:=fun i k=>AR (W i k) (F i k) i k) (fun i k=>FX _ _ i k) i k;generalize hA:acc++uW k (fun i k=>AR (W i k) (F i k) i k) i=A;have hAl:A.length≤8192+128:=by rw[←hA,List.length_append];omega
  rw[←List.append_assoc,hA];simp only[hg,if_true,aq,zo _ hi,U,ZR,EU _ hk,cI,Du,ak (show k<9223372036854775807 by omega)];generalize W i k=w;generalize F i k=f;by_cases As:i=k
  ·have hb:((i:Int)==(k:Int))=true:=by simp[As]
   have hit:AR w f i k=[]:=if_pos (.inl As);simp only[hb,cond_true,U,if_true,hit,List.append_nil]
  ·have hb:((i:Int)==(k:Int))=false:=by rw[beq_eq_false_iff_ne];omega
   simp only[hb,cond_false,U];by_cases hw:w>14400
   ·have hit:AR w f i k=[]:=if_pos (.inr hw);simp only[hw,decide_true,if_true,hit,List.append_nil]
   ·have Wq:(A++[PV.agg [.int .i64 i,.int .i64 k,.int .i64 w,.bool (f==w)]]).length*32≤aa∧0<32:=sl (by simp;omega);simp only[hw,decide_false,Bool.false_eq_true,if_false,if_pos Wq];by_cases hf:f>w
    ·by_cases hf2:f≤14400
     ·have Ob:(A++[PV.agg [.int .i64 i,.int .i64 k,.int .i64 w,.bool (f==w)]]++[PV.agg [.int .i64 i,.int .i64 k,.int .i64 f,.bool true]]).length*32≤aa∧0<32:=sl (by simp;omega);have hit:AR w f i k=[U8 i k w (f==w),U8 i k f true]:=by unfold AR;rw[if_neg (by omega),if_pos ⟨hf,hf2⟩]
      simp only[hf,hf2,decide_true,cond_true,U,if_true,if_pos Ob,hit];rw[List.append_assoc];rfl
     ·have hit:AR w f i k=[U8 i k w (f==w)]:=by unfold AR;rw[if_neg (by omega),if_neg (by omega)]
      simp only[hf,hf2,decide_true,decide_false,cond_true,U,Bool.false_eq_true,if_false,hit];rfl
    ·have hit:AR w f i k=[U8 i k w (f==w)]:=by unfold AR;rw[if_neg (by omega),if_neg (by omega)]
     simp only[hf,decide_false,cond_false,U,Bool.false_eq_true,if_false,hit];rfl
 ·unfold ke;dsimp only;rw[if_neg (by simp)]
theorem Iq(n:Nat)(W F:Nat→Nat→Int)(hn:n≤64):bI.run (kg bI) ((n:Int),eU n W,eU n F,0,[],())=some (.rs 4 (wZ n (fun i k=>AR (W i k) (F i k) i k) n)):=by
 refine bp (fun i=>((n:Int),eU n W,eU n F,(i:Int),wZ n (fun i k=>AR (W i k) (F i k) i k) i,())) n (fun i hi rec=>?_) (fun rec=>?_) (by unfold rounds;omega) rfl
 ·unfold kg;dsimp only;have hg:decide ((i:Int)<(n:Int))=true:=by simp;omega
  have hlen:=xP (it:=fun i k=>AR (W i k) (F i k) i k) (fun i k=>FX _ _ i k) n i;have hb:2*n*i≤2*64*64:=Nat.mul_le_mul (by omega) (by omega);rw[if_pos hg,Mb rec n i W F hn hi _ (by omega),zn,ak (by omega)]
 ·unfold kg;dsimp only;rw[if_neg (by simp)]
def qk(n:Nat)(l:List Fp)(fr:Bool)(i j:Nat):Int:=((dk n (start xX (counted fr l)) n i j:Nat):Int)
theorem Mc(l:List Fp)(n:Nat)(hn:n≤64)(hl:l.length≤4096)(h:∀p∈l,p.a<n∧p.b<n):fB [.rs 4 (l.map Fp.pv),.int .i64 n]=some (.rs 4 (wZ n (fun i k=>AR (qk n l false i k) (qk n l true i k) i k) n)):=by
 have e0:ab 4 (.rs 4 (l.map Fp.pv))=some (l.map Fp.pv):=by simp[ab]
 have e1:∀es,ab 1 (.rs 1 es)=some es:=fun es=>by simp[ab]
 simp only[fB,sP,e0,U,Du,xY l n hn hl h false,xY l n hn hl h true,e1];exact Iq n (qk n l false) (qk n l true) hn
end Go.Ab.Nw
namespace Go.Ab.Nw
set_option maxRecDepth 100000
set_option linter.unusedVariables false
set_option linter.unusedSimpArgs false
def JE(w f:Int)(i k:Nat):List PV:=if i=k then[]else(if 0<w∧w≤14400 then[U8 i k w (f==w)]else[])++(if f≠w∧0<f∧f≤14400 then[U8 i k f true]else[])
theorem jD.pos{w:Nat→Nat→Nat→Prop}(h:∀i j c,w i j c→1≤c){i j L:Nat}(hw:jD w i j L):1≤L:=by
 cases hw with
 |CV e=>exact h _ _ _ e
 |snoc _ e=>have:=h _ _ _ e;omega
def pW(M:Nat)(d w:Int):Prop:=(d= -1∧w=(xX:Int))∨(d=w∧1≤w∧w≤M)
theorem abr{M:Nat}(hM:M<xX){d0 d1 w f:Int}(h0:pW M d0 w)(h1:pW M d1 f)(GN:d1≠-1→d0≠-1∧d0≤d1)(i k:Nat):JE d0 d1 i k=AR w f i k:=by
 unfold JE AR;by_cases As:i=k
 ·rw[if_pos As,if_pos (.inl As)]
 ·rw[if_neg As];have hM:(M:Int)<1099511627776:=by have:M<1099511627776:=hM;omega
  have afx:((xX:Nat):Int)=1099511627776:=rfl;rw[pW,afx]at h0 h1;rcases h0 with⟨e0,w0⟩|⟨e0,w1,w2⟩
  ·have e1:d1= -1:=by
    by_cases h:d1= -1
    ·exact h
    ·exact absurd e0 (GN h).1
   rw[if_neg (by omega),if_neg (by omega),if_pos (.inr (by omega))];rfl
  ·subst e0;rcases h1 with⟨e1,f0⟩|⟨e1,f1,f2⟩
   ·by_cases hw:d0≤14400
    ·have b1:(d1==d0)=false:=by rw[beq_eq_false_iff_ne];omega
     have b2:(f==d0)=false:=by rw[beq_eq_false_iff_ne];omega
     rw[if_pos ⟨by omega,hw⟩,if_neg (by omega),if_neg (by omega),if_neg (by omega),b1,b2];rfl
    ·rw[if_neg (by omega),if_neg (by omega),if_pos (.inr (by omega))];rfl
   ·subst e1;have hle:=(GN (by omega)).2;by_cases hw:d0≤14400
    ·rw[if_pos ⟨by omega,hw⟩,if_neg (show¬(i=k∨d0>14400) by omega)];by_cases hf:d1>d0∧d1≤14400
     ·rw[if_pos hf,if_pos ⟨by omega,by omega,by omega⟩];rfl
     ·rw[if_neg hf,if_neg (by omega)];rfl
    ·rw[if_neg (by omega),if_neg (by omega),if_pos (.inr (by omega))];rfl
theorem OT{l:List Fp}{n B:Nat}(hn:n≤64)(hB:B≤1073741824)(h:∀p∈l,p.a<n∧p.b<n∧1≤p.c∧p.c≤B)(fr:Bool){i k:Nat}(hi:i<n)(hk:k<n)(As:i≠k){d:Int}(hd:Ma (counted fr l) (B*n) i k d):pW (B*n) d (qk n l fr i k):=by
 have hE:∀y∈counted fr l,y.f<n∧y.t<n∧1≤y.c:=fun y hy=>by obtain⟨p,hp,rfl⟩:=uV hy;obtain⟨a,b,c,_⟩:=h p hp;exact⟨a,b,c⟩
 have hM:B*n<xX:=by have:B*n≤1073741824*64:=Nat.mul_le_mul hB hn;show B*n<1099511627776;omega
 rcases Wn (inf:=xX) (fun y hy=>⟨(hE y hy).1,(hE y hy).2.1⟩) hM hi hk As hd with⟨e1,e2⟩|⟨e1,e2⟩
 ·exact .inl ⟨e1,by unfold qk;rw[e2]⟩
 ·refine .inr ⟨e1,?_,by unfold qk;omega⟩;rcases hd with⟨e,_⟩|⟨L,e,_,hr,_⟩
  ·omega
  ·have:1≤L:=by
    rcases hr with⟨h,_⟩|hw
    ·exact absurd h.symm As
    ·exact hw.pos fun a b c hc=>(hE _ hc).2.2
   unfold qk;omega
theorem Wr{l:List Fp}{M i k:Nat}{d0 d1:Int}(h0:Ma (counted false l) M i k d0)(h1:Ma (counted true l) M i k d1)(cQ:d1≠-1):d0≠-1∧d0≤d1:=by
 have sub:∀y,y∈counted true l→y∈counted false l:=fun y hy=>by unfold counted at hy⊢;obtain⟨p,hp,rfl⟩:=List.mem_map.1 hy;exact List.mem_map.2 ⟨p,List.mem_filter.2 ⟨(List.mem_filter.1 hp).1,rfl⟩,rfl⟩
 rcases h1 with⟨e,_⟩|⟨L1,e1,_,r1,_⟩
 ·exact absurd e cQ
 ·have r:=r1.mem sub;rcases h0 with⟨_,h⟩|⟨L0,e0,_,_,m0⟩
  ·exact absurd r (h L1)
  ·have:=m0 L1 r;omega
end Go.Ab.Nw
namespace Go.Ab.Nw
set_option maxRecDepth 100000
set_option linter.unusedVariables false
set_option linter.unusedSimpArgs false
theorem OU(w f:Int)(i k:Nat):(JE w f i k).length≤2:=by
 unfold JE;split
 ·simp
 ·rw[List.length_append];split<;>split<;>simp
theorem QC(zp:TY8→Option PV)(n i:Nat)(W F:Nat→Nat→Int)(hn:n≤64)(hi:i<n)(acc:List PV)(afw:acc.length≤8192):bI.run (gj bI zp) (eU n W,eU n F,(i:Int),(n:Int),(i:Int),rX n (W i),(n:Int),0,acc,())=zp (eU n W,eU n F,(n:Int),IntKind.i64.wrap ((i:Int)+1),acc++uW n (fun i k=>JE (W i k) (F i k) i k) i,()):=by
 refine bp (fun k=>(eU n W,eU n F,(i:Int),(n:Int),(i:Int),rX n (W i),(n:Int),(k:Int),acc++uW k (fun i k=>JE (W i k) (F i k) i k) i,())) n (fun k hk rec=>?_) (fun rec=>?_) (by unfold rounds;omega) (by simp[uW])
 ·unfold gj;dsimp only;have hg:decide ((k:Int)<(n:Int))=true:=by simp;omega
  rw[zm];have hlen:=xZ (it:=fun i k=>JE (W i k) (F i k) i k) (fun i k=>OU _ _ i k) i k;generalize hA:acc++uW k (fun i k=>JE (W i k) (F i k) i k) i=A;have hAl:A.length≤8192+128:=by rw[←hA,List.length_append];omega
  rw[←List.append_assoc,hA];simp only[hg,if_true,aq,EU _ hk,zo _ hi,U,ZR,cI,Du,ak (show k<9223372036854775807 by omega)];generalize W i k=w;generalize F i k=f;by_cases As:i=k
  ·have hb:((i:Int)==(k:Int))=true:=by simp[As]
   have hit:JE w f i k=[]:=if_pos As;simp only[hb,if_true,hit,List.append_nil]
  ·have hb:((i:Int)==(k:Int))=false:=by rw[beq_eq_false_iff_ne];omega
   have hand:∀x:Int,(bif decide (x>0)then some (decide (x≤14400))else some false)=some (decide (0<x∧x≤14400)):=fun x=>by
    by_cases h1:x>0
    ·have:(0<x∧x≤14400)↔x≤14400:=⟨fun h=>h.2,fun h=>⟨h1,h⟩⟩;rw[decide_eq_true h1,cond_true,decide_eq_decide.2 this.symm]
    ·have:¬(0<x∧x≤14400):=fun h=>h1 h.1;rw[decide_eq_false h1,cond_false,decide_eq_false this]
   have Wq:(A++[PV.agg [.int .i64 i,.int .i64 k,.int .i64 w,.bool (f==w)]]).length*32≤aa∧0<32:=sl (by simp;omega);have Ob:(A++[PV.agg [.int .i64 i,.int .i64 k,.int .i64 w,.bool (f==w)]]++[PV.agg [.int .i64 i,.int .i64 k,.int .i64 f,.bool true]]).length*32≤aa∧0<32:=sl (by simp;omega);have VK:(A++[PV.agg [.int .i64 i,.int .i64 k,.int .i64 f,.bool true]]).length*32≤aa∧0<32:=sl (by simp;omega);have cQ:(f !=w)=decide (f≠w):=by
    by_cases h:f=w
    ·simp[h]
    ·simp[h]
   have hit:JE w f i k=(if 0<w∧w≤14400 then[U8 i k w (f==w)]else[])++(if f≠w∧0<f∧f≤14400 then[U8 i k f true]else[]):=if_neg As;simp only[hb,Bool.false_eq_true,if_false,hand,U,cQ,decide_eq_true_eq,hit,if_pos Wq,if_pos Ob,if_pos VK];by_cases h1:0<w∧w≤14400
   ·by_cases h2:f≠w
    ·by_cases h3:0<f∧f≤14400
     ·rw[if_pos h1,if_pos h2,if_pos h3,if_pos h1,if_pos ⟨h2,h3⟩,List.append_assoc];rfl
     ·rw[if_pos h1,if_pos h2,if_neg h3,if_pos h1,if_neg (fun h=>h3 h.2)];rfl
    ·rw[if_pos h1,if_neg h2,if_pos h1,if_neg (fun h=>h2 h.1)];rfl
   ·by_cases h2:f≠w
    ·by_cases h3:0<f∧f≤14400
     ·rw[if_neg h1,if_pos h2,if_pos h3,if_neg h1,if_pos ⟨h2,h3⟩];rfl
     ·rw[if_neg h1,if_pos h2,if_neg h3,if_neg h1,if_neg (fun h=>h3 h.2)];simp
    ·rw[if_neg h1,if_neg h2,if_neg h1,if_neg (fun h=>h2 h.1)];simp
 ·unfold gj;dsimp only;rw[if_neg (by simp)]
theorem Md(n:Nat)(W F:Nat→Nat→Int)(hn:n≤64){es':List PV}(hs:ue 4 (fun c a b=>bt [a,b]) (wZ n (fun i k=>JE (W i k) (F i k) i k) n)=some es'):bI.run (gk bI) (eU n W,eU n F,(n:Int),0,[],())=some (.rs 4 es'):=by
 have hlen:∀i,i≤n→(wZ n (fun i k=>JE (W i k) (F i k) i k) i).length≤8192:=fun i hi=>by have h1:=xP (it:=fun i k=>JE (W i k) (F i k) i k) (fun i k=>OU _ _ i k) n i;have hb:2*n*i≤2*64*64:=Nat.mul_le_mul (by omega) (by omega);omega
 refine bp (fun i=>(eU n W,eU n F,(n:Int),(i:Int),wZ n (fun i k=>JE (W i k) (F i k) i k) i,())) n (fun i hi rec=>?_) (fun rec=>?_) (by unfold rounds;omega) rfl
 ·unfold gk;dsimp only;have hg:decide ((i:Int)<(n:Int))=true:=by simp;omega
  have VV:((rX n (W i)).length:Int)=(n:Int):=by simp[rX]
  rw[if_pos hg,aq,zo _ hi,U,ZR,U,VV,QC rec n i W F hn hi _ (hlen i (by omega)),zn,ak (by omega)]
 ·unfold gk;dsimp only;have h:=hlen n (Nat.le_refl _);rw[if_neg (by simp),if_pos (by refine⟨rfl,?_⟩;unfold aa;omega),hs];rfl
end Go.Ab.Nw
namespace Go.Ab.Nw
set_option maxRecDepth 100000
set_option linter.unusedVariables false
set_option linter.unusedSimpArgs false
def kI:PV→Int
 |.int _ n=>n
 |_=>0
def c3(x y:Int):Int:=if x<y then-1 else if x>y then 1 else 0
def or3(a b c:Int):Int:=if a≠0 then a else if b≠0 then b else c
def XK(a b:List PV):Int:=or3 (c3 (kI (a.getD 0 .bad)) (kI (b.getD 0 .bad))) (c3 (kI (a.getD 1 .bad)) (kI (b.getD 1 .bad))) (c3 (kI (a.getD 2 .bad)) (kI (b.getD 2 .bad)))
theorem Me(x y:Int):cS [.int .i64 x,.int .i64 y]=some (.int .i64 (c3 x y)):=by
 have h:∀z:Int,¬(z !=z)=true:=fun z=>by simp
 simp only[cS,nH,Du,U,if_neg (h x),if_neg (h y),decide_eq_true_eq];unfold c3;split
 ·rfl
 ·split<;>rfl
theorem abt(a b c:Int):gN [.rs 1 [.int .i64 a,.int .i64 b,.int .i64 c]]=some (.int .i64 (or3 a b c)):=by
 have e0:ab 1 (.rs 1 [.int .i64 a,.int .i64 b,.int .i64 c])=some [.int .i64 a,.int .i64 b,.int .i64 c]:=by simp[ab]
 simp only[gN,wL,e0,U];obtain⟨es,Dt⟩:∃es,es=[PV.int .i64 a,.int .i64 b,.int .i64 c]:=⟨_,rfl⟩;have hl:((es.length:Nat):Int)=3:=by rw[Dt];rfl
 rw[←Dt];have hb:∀(k:Nat)(x:Int),es[k]?=some (.int .i64 x)→k<3→∀rec,eE (0,es,((es.length:Nat):Int),(k:Int),()) rec=if x≠0 then some (.int .i64 x)else rec (0,es,((es.length:Nat):Int),((k+1:Nat):Int),()):=fun k x hx hk rec=>by
  unfold eE;dsimp only;have hg:decide ((k:Int)<((es.length:Nat):Int))=true:=by rw[hl];simp;omega
  rw[if_pos hg,aq,hx,U,cI,Du,U,ak (by omega)];by_cases h:x=0
  ·subst h;rfl
  ·have:(x !=0)=true:=by simpa using h
   rw[if_pos this,if_pos h]
 have he:∀rec,eE (0,es,((es.length:Nat):Int),((3:Nat):Int),()) rec=some (.int .i64 0):=fun rec=>by
  unfold eE;dsimp only;have hg:¬decide (((3:Nat):Int)<((es.length:Nat):Int))=true:=by rw[hl];decide
  rw[if_neg hg]
 have hN:rounds=18446744073709551612+1+1+1+1:=rfl;rw[jg,hN];generalize 18446744073709551612=N;show eE (0,es,((es.length:Nat):Int),((0:Nat):Int),()) _=_;rw[hb 0 a (by rw[Dt];rfl) (by omega)];unfold or3;by_cases h1:a≠0
 ·rw[if_pos h1,if_pos h1]
 ·rw[if_neg h1,if_neg h1];show eE (0,es,((es.length:Nat):Int),((1:Nat):Int),()) _=_;rw[hb 1 b (by rw[Dt];rfl) (by omega)];by_cases h2:b≠0
  ·rw[if_pos h2,if_pos h2]
  ·rw[if_neg h2,if_neg h2];show eE (0,es,((es.length:Nat):Int),((2:Nat):Int),()) _=_;rw[hb 2 c (by rw[Dt];rfl) (by omega)];by_cases h3:c≠0
   ·rw[if_pos h3]
   ·rw[if_neg h3];show eE (0,es,((es.length:Nat):Int),((3:Nat):Int),()) _=_;rw[he];have:c=0:=Decidable.not_not.1 h3;rw[this]
def Rq(i k:Nat)(s:Int)(b:Bool):List PV:=[.int .i64 i,.int .i64 k,.int .i64 s,.bool b]
theorem TN(i k:Nat)(s:Int)(b:Bool)(i' k':Nat)(s':Int)(b':Bool):bt [vO (Rq i k s b),vO (Rq i' k' s' b')]=some (.int .i64 (XK (Rq i k s b) (Rq i' k' s' b'))):=by have a:∀(w x y z:PV),asAgg 4 (.agg [w,x,y,z])=some ():=fun _ _ _ _=>rfl;have a0:∀(w x y z:PV),cell (.agg [w,x,y,z]) 0=w:=fun _ _ _ _=>rfl;have a1:∀(w x y z:PV),cell (.agg [w,x,y,z]) 1=x:=fun _ _ _ _=>rfl;have a2:∀(w x y z:PV),cell (.agg [w,x,y,z]) 2=y:=fun _ _ _ _=>rfl;have a3:∀(w x y z:PV),cell (.agg [w,x,y,z]) 3=z:=fun _ _ _ _=>rfl;simp only[bt,ky,vO,Rq,a,a0,a1,a2,a3,Du,asBool,U,Me,abt];rfl
end Go.Ab.Nw
namespace Go.Ab.Nw
set_option maxRecDepth 100000
set_option linter.unusedVariables false
set_option linter.unusedSimpArgs false
theorem Mf(x y:Int):(c3 x y<0↔x<y)∧(c3 x y=0↔x=y):=by unfold c3;split<;>(try split)<;>constructor<;>constructor<;>intro h<;>first|omega|(exfalso;omega)
theorem zq(i k:Nat)(s:Int)(b:Bool)(i' k':Nat)(s':Int)(b':Bool):XK (Rq i k s b) (Rq i' k' s' b')<0↔i<i'∨(i=i'∧(k<k'∨(k=k'∧s<s'))):=by
 show or3 (c3 (i:Int) (i':Int)) (c3 (k:Int) (k':Int)) (c3 s s')<0↔_;have h1:=Mf (i:Int) (i':Int);have h2:=Mf (k:Int) (k':Int);have h3:=Mf s s';unfold or3;split
 ·constructor<;>intro h<;>omega
 ·split
  ·constructor<;>intro h<;>omega
  ·constructor<;>intro h<;>omega
def IsF(e:List PV):Prop:=∃i k s b,e=Rq i k s b
variable{ns:List (List PV)}
theorem Mg(h:ns.Pairwise fun a b=>XK a b<0):∀a∈ns,∀b∈ns,¬XK a b<0→¬XK b a<0→a=b:=by
 induction h with
 |nil=>intro a ha;cases ha
 | @cons x l hx _ ih=>
  intro a ha b hb h1 h2;rcases List.mem_cons.1 ha with ea|Xc
  ·rcases List.mem_cons.1 hb with eb|fU
   ·rw[ea,eb]
   ·rw[ea]at h1;exact absurd (hx b fU) h1
  ·rcases List.mem_cons.1 hb with eb|fU
   ·rw[eb]at h2;exact absurd (hx a Xc) h2
   ·exact ih a Xc b fU h1 h2
theorem Ir(hF:∀e∈ns,IsF e)(h:ns.Pairwise fun a b=>XK a b<0):jm 4 (fun c a b=>bt [a,b]) ns ns XK where
 len a ha:=by obtain⟨i,k,s,b,rfl⟩:=hF a ha;rfl
 R6 a ha p hp:=by obtain⟨i,k,s,b,rfl⟩:=hF a ha;simp only[Rq,List.mem_cons,List.not_mem_nil,or_false]at hp;rcases hp with rfl|rfl|rfl|rfl<;>rfl
 perm:=List.Perm.refl _
 reads c _ _ a ha b hb:=by obtain⟨i,k,s,q,rfl⟩:=hF a ha;obtain⟨i',k',s',q',rfl⟩:=hF b hb;exact TN ..
 irrefl a ha:=by obtain⟨i,k,s,q,rfl⟩:=hF a ha;rw[zq];omega
 trans a ha b hb c hc h1 h2:=by obtain⟨i,k,s,q,rfl⟩:=hF a ha;obtain⟨i',k',s',q',rfl⟩:=hF b hb;obtain⟨i2,k2,s2,q2,rfl⟩:=hF c hc;rw[zq]at*;omega
 total:=Mg h
 sorted:=h.imp_of_mem fun{a b}ha hb rA=>by obtain⟨i,k,s,q,rfl⟩:=hF a ha;obtain⟨i',k',s',q',rfl⟩:=hF b hb;rw[zq]at*;omega
def itC(w f:Int)(i k:Nat):List (List PV):=if i=k∨w>14400 then[]else Rq i k w (f==w)::(if f>w∧f≤14400 then[Rq i k f true]else[])
theorem Ws(w f:Int)(i k:Nat):(itC w f i k).map vO=AR w f i k:=by
 unfold itC AR;split
 ·rfl
 ·split<;>rfl
def DH(n:Nat)(W F:Nat→Nat→Int):List (List PV):=(List.range n).flatMap fun i=>(List.range n).flatMap fun k=>itC (W i k) (F i k) i k
theorem zf(n:Nat)(W F:Nat→Nat→Int):eC (DH n W F)=wZ n (fun i k=>AR (W i k) (F i k) i k) n:=by unfold eC DH wZ uW;rw[List.map_flatMap];congr 1;funext i;rw[List.map_flatMap];congr 1;funext k;exact Ws ..
theorem yb{w f:Int}{i k:Nat}{e:List PV}(h:e∈itC w f i k):∃s b,e=Rq i k s b:=by
 unfold itC at h;split at h
 ·cases h
 ·rcases List.mem_cons.1 h with rfl|h
  ·exact⟨_,_,rfl⟩
  ·split at h
   ·simp at h;subst h;exact⟨_,_,rfl⟩
   ·cases h
theorem H4(n:Nat)(W F:Nat→Nat→Int):∀e∈DH n W F,IsF e:=fun e h=>by obtain⟨i,_,h⟩:=List.mem_flatMap.1 h;obtain⟨k,_,h⟩:=List.mem_flatMap.1 h;obtain⟨s,b,rfl⟩:=yb h;exact⟨i,k,s,b,rfl⟩
theorem Is(n:Nat)(W F:Nat→Nat→Int):(DH n W F).Pairwise fun a b=>XK a b<0:=by
 unfold DH;rw[List.pairwise_flatMap];refine⟨fun i _=>?_,List.pairwise_lt_range.imp fun{i i'}Ei x hx y hy=>?_⟩
 ·rw[List.pairwise_flatMap];refine⟨fun k _=>?_,List.pairwise_lt_range.imp fun{k k'}yU x hx y hy=>?_⟩
  ·unfold itC;split
   ·exact .nil
   ·split
    ·rename_i h;refine List.pairwise_cons.2 ⟨fun y hy=>?_,List.pairwise_singleton ..⟩;simp at hy;subst hy;rw[zq];omega
    ·exact List.pairwise_singleton ..
  ·obtain⟨s,b,rfl⟩:=yb hx;obtain⟨s',b',rfl⟩:=yb hy;rw[zq];omega
 ·obtain⟨k,_,hx⟩:=List.mem_flatMap.1 hx;obtain⟨k',_,hy⟩:=List.mem_flatMap.1 hy;obtain⟨s,b,rfl⟩:=yb hx;obtain⟨s',b',rfl⟩:=yb hy;rw[zq];omega
theorem LR(l:List Fp)(n:Nat)(hn:n≤64)(hl:l.length≤4096)(h:∀p∈l,p.a<n∧p.b<n∧1≤p.c∧p.c≤14400):c7 [.rs 4 (l.map Fp.pv),.int .i64 n]=some (.rs 4 (eC (DH n (qk n l false) (qk n l true))))∧fB [.rs 4 (l.map Fp.pv),.int .i64 n]=some (.rs 4 (eC (DH n (qk n l false) (qk n l true)))):=by
 have hr:=Mc l n hn hl fun p hp=>⟨(h p hp).1,(h p hp).2.1⟩;rw[←zf]at hr;refine⟨?_,hr⟩;have hB:(14400:Nat)≤1073741824:=by omega
 obtain⟨D0,d0,e0⟩:=OR l n 14400 hn hl hB (fun p hp=>⟨(h p hp).1,(h p hp).2.1,(h p hp).2.2.2⟩) false;obtain⟨D1,d1,e1⟩:=OR l n 14400 hn hl hB (fun p hp=>⟨(h p hp).1,(h p hp).2.1,(h p hp).2.2.2⟩) true;have hM:14400*n<xX:=by show 14400*n<1099511627776;omega
 have Km:wZ n (fun i k=>JE (D0 i k) (D1 i k) i k) n=eC (DH n (qk n l false) (qk n l true)):=by
  rw[zf];unfold wZ uW;rw[List.flatMap_def,List.flatMap_def];congr 1;apply List.map_congr_left;intro i hi;rw[List.flatMap_def,List.flatMap_def];congr 1;apply List.map_congr_left;intro k hk;have hi:=List.mem_range.1 hi;have hk:=List.mem_range.1 hk;dsimp only;by_cases As:i=k
  ·rw[show JE (D0 i k) (D1 i k) i k=[]from if_pos As,show AR (qk n l false i k) (qk n l true i k) i k=[]from if_pos (.inl As)]
  ·exact abr hM (OT hn hB h false hi hk As (d0 i k hi hk)) (OT hn hB h true hi hk As (d1 i k hi hk)) (Wr (d0 i k hi hk) (d1 i k hi hk)) i k
 have a0:ab 4 (.rs 4 (l.map Fp.pv))=some (l.map Fp.pv):=by simp[ab]
 have a1:∀es,ab 1 (.rs 1 es)=some es:=fun es=>by simp[ab]
 have hlen:((eU n D0).length:Int)=(n:Int):=by simp[eU]
 simp only[c7,mA,a0,Du,U,e0,e1,a1,hlen];exact Md n D0 D1 hn (by rw[Km];exact P9 (Ir (H4 _ _ _) (Is _ _ _)))
end Go.Ab.Nw
