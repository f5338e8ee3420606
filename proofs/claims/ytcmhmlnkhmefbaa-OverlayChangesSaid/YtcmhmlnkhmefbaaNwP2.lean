import Derived.Test.YtcmhmlnkhmefbaaNwP1
namespace Go.Ab.Nw
set_option maxRecDepth 100000
set_option linter.unusedVariables false
set_option linter.unusedSimpArgs false
def Hw(E:List Ed)(M:Nat)(s v:Nat)(d:Int):Prop:=(d= -1∧∀L,¬CW E s v L)∨∃L:Nat,d=L∧L≤M∧CW E s v L∧∀L',CW E s v L'→L≤L'
theorem Hw.unique{E:List Ed}{M M' s v:Nat}{d d':Int}(h:Hw E M s v d)(h':Hw E M' s v d'):d=d':=by
 rcases h with⟨e,h⟩|⟨L,e,_,h1,h2⟩
 ·rcases h' with⟨e',_⟩|⟨L',_,_,I5,_⟩
  ·rw[e,e']
  ·exact absurd I5 (h L')
 ·rcases h' with⟨_,h'⟩|⟨L',e',_,I5,Kv⟩
  ·exact absurd h1 (h' L)
  ·rw[e,e',Nat.le_antisymm (h2 _ I5) (Kv _ h1)]
theorem CW.mem{E E':List Ed}(h:∀y,y∈E→y∈E'){s v L:Nat}(hr:CW E s v L):CW E' s v L:=by
 rcases hr with hr|hr
 ·exact .inl hr
 ·exact .inr (hr.mono fun i j c hc=>h _ hc)
theorem Hw.mem{E E':List Ed}(h:∀y,y∈E↔y∈E'){M s v:Nat}{d:Int}(hd:Hw E M s v d):Hw E' M s v d:=by
 rcases hd with⟨e,h1⟩|⟨L,e,hM,h1,h2⟩
 ·exact .inl ⟨e,fun L hL=>h1 L (hL.mem fun y hy=>(h y).2 hy)⟩
 ·exact .inr ⟨L,e,hM,h1.mem fun y hy=>(h y).1 hy,fun L' hL=>h2 L' (hL.mem fun y hy=>(h y).2 hy)⟩
def qg(n:Nat)(D:Nat→Int):List PV:=(List.range n).map fun v=>.int .i64 (D v)
def iR(n:Nat)(D:Nat→Nat→Int):List PV:=(List.range n).map fun s=>.rs 1 (qg n (D s))
variable{D:Nat→Nat→Int}
theorem EJ{n:Nat}{D':Nat→Nat→Int}(h:∀s v,s<n→v<n→D s v=D' s v):iR n D=iR n D':=by unfold iR;apply List.map_congr_left;intro s hs;unfold qg;congr 1;apply List.map_congr_left;intro v hv;rw[h s v (List.mem_range.1 hs) (List.mem_range.1 hv)]
theorem Ou(E:List Ed)(n B:Nat)(hn:n≤64)(hE:E.length≤4096)(hB:B≤1073741824)(h:∀y∈E,y.f<n∧y.t<n∧y.c≤B):∃D:Nat→Nat→Int,(∀s v,s<n→v<n→Hw E (B*n) s v (D s v))∧dH [.int .i64 n,.rs 3 (E.map Ed.pv)]=some (.bA [.rs 1 (iR n D),.int .i64 0]):=by
 have h':∀y∈E,y.f<n∧y.t<n∧y.c≤1073741824:=fun y hy=>⟨(h y hy).1,(h y hy).2.1,by have:=(h y hy).2.2;omega⟩;have hG:=Ot E n hn hE h';have each:∀s,∃o:kP,s<n→(∃pu,DI E n s B o pu [])∧cZ [.int .i64 n,.rm 3 ((BK (sB E)).map fun x=>x.1) ((BK (sB E)).map fun x=>x.2.kE),.int .i64 s]=some (.rs 3 (dC n o)):=fun s=>by
  by_cases hs:s<n
  ·obtain⟨o,pu,h1,h2⟩:=Lg hG hs hB (fun y hy=>(h y hy).2.2) hn;exact⟨o,fun _=>⟨⟨pu,h1⟩,h2⟩⟩
  ·exact⟨fun _=>none,fun h=>absurd h hs⟩
 obtain⟨o,ho⟩:=Classical.axiomOfChoice each;refine⟨fun s v=>CZ (o s v),fun s v hs hv=>?_,?_⟩
 ·obtain⟨⟨pu,hI⟩,_⟩:=ho s hs;have:=hI.done h hv;cases hl:o s v with
  |none=>rw[hl]at this;exact .inl ⟨by dsimp only;rw[hl];rfl,this⟩
  |some p=>obtain⟨L,e⟩:=p;rw[hl]at this;exact .inr ⟨L,by dsimp only;rw[hl];rfl,this.1,this.2.1,this.2.2⟩
 ·have e0:ae 3 (.rs 3 (E.map Ed.pv))=some (E.map Ed.pv):=by simp[ae]
  have dc:(0:Int)≤(n:Int)∧(n:Int)≤(n:Int)∧n*24≤aa∧0<24∧0<1:=by refine⟨by omega,by omega,?_,by omega,by omega⟩;unfold aa;omega
  have hz:((0:Int) !=0)=false:=rfl;simp only[dH,pI,EE,e0,U,Oo E n hn hE h',hz,Bool.false_eq_true,if_false,C2 E hE,dF,if_true,Int.toNat_natCast,if_pos dc,List.length_replicate];refine cU (fun k=>((n:Int),PV.rm 3 ((BK (sB E)).map fun x=>x.1) ((BK (sB E)).map fun x=>x.2.kE),(n:Int),(k:Int),nM n k (fun s=>.rs 1 (qg n fun v=>CZ (o s v))) (.rs 0 []),())) n (fun k hk rec=>?_) (fun rec=>?_) (by unfold rounds;omega) ?_
  ·unfold jb;dsimp only;have hg:decide ((k:Int)<(n:Int))=true:=by simp;omega
   have e3:ae 3 (.rs 3 (dC n (o k)))=some (dC n (o k)):=by simp[ae]
   have e1:ae 1 (.rs 1 ((List.range n).map fun v=>PV.int .i64 (CZ (o k v))))=some ((List.range n).map fun v=>PV.int .i64 (CZ (o k v))):=by simp[ae]
   rw[if_pos hg,(ho k hk).2,U,e3,U,Hv n hn,U,e1,U,if_pos (ED (by rw[EF];exact hk)),Int.toNat_natCast,EG hk,U,aI (by omega)];have:=EH (F:=fun s=>PV.rs 1 (qg n fun v=>CZ (o s v))) (z:=.rs 0 []) hk;unfold qg at this⊢;rw[this]
  ·unfold jb;dsimp only;rw[if_neg (by simp),EI];rfl
  ·rw[BJ];rfl
theorem Ov(E E':List Ed)(n B:Nat)(hn:n≤64)(hE:E'.length≤4096)(hB:B≤1073741824)(h:∀y∈E,y.f<n∧y.t<n∧y.c≤B)(he:∀y,y∈E↔y∈E')(hD:∀s v,s<n→v<n→Hw E (B*n) s v (D s v)):dH [.int .i64 n,.rs 3 (E'.map Ed.pv)]=some (.bA [.rs 1 (iR n D),.int .i64 0]):=by obtain⟨D',d1,d2⟩:=Ou E' n B hn hE hB fun y hy=>h y ((he y).2 hy);rw[d2,EJ fun s v hs hv=>((hD s v hs hv).mem he).unique (d1 s v hs hv)]
end Go.Ab.Nw
namespace Go.Ab.Nw
set_option maxRecDepth 100000
set_option linter.unusedVariables false
set_option linter.unusedSimpArgs false
structure Fp where
 a:Nat
 b:Nat
 c:Nat
 free:Bool
 deriving DecidableEq
def Fp.pv(p:Fp):PV:=.agg [.int .i64 p.a,.int .i64 p.b,.int .i64 p.c,.bool p.free]
theorem fp0(p:Fp):cell p.pv 0=.int .i64 p.a:=rfl
theorem fp1(p:Fp):cell p.pv 1=.int .i64 p.b:=rfl
theorem fp2(p:Fp):cell p.pv 2=.int .i64 p.c:=rfl
theorem fp3(p:Fp):cell p.pv 3=.bool p.free:=rfl
def Fp.ed(p:Fp):Ed:=⟨p.a,p.b,p.c⟩
def tG(z:Ed):List Ed→List Ed
 |[]=>[z]
 |e::r=>if z.f=e.f∧z.t=e.t then z::r else e::tG z r
def uK(a b:Nat):List Ed→Option Nat
 |[]=>none
 |e::r=>if a=e.f∧b=e.t then some e.c else uK a b r
theorem zP(a b:Nat)(z:Ed):∀m,uK a b (tG z m)=if a=z.f∧b=z.t then some z.c else uK a b m
 |[]=>rfl
 |e::r=>by
  simp only[tG];by_cases h:z.f=e.f∧z.t=e.t
  ·rw[if_pos h];simp only[uK];by_cases h2:a=z.f∧b=z.t
   ·rw[if_pos h2,if_pos h2]
   ·rw[if_neg h2,if_neg h2,if_neg (by rw[←h.1,←h.2];exact h2)]
  ·rw[if_neg h];simp only[uK];by_cases h2:a=e.f∧b=e.t
   ·rw[if_pos h2,if_neg (by rw[h2.1,h2.2];rintro⟨x,y⟩;exact h ⟨x.symm,y.symm⟩),if_pos h2]
   ·rw[if_neg h2,if_neg h2];exact zP a b z r
theorem EK(z e:Ed):∀m,e∈tG z m→e=z∨e∈m
 |[],h=>by simp[tG]at h;exact .inl h
 |x::r,h=>by
  simp only[tG]at h;split at h
  ·rcases List.mem_cons.1 h with h|h
   ·exact .inl h
   ·exact .inr (by simp[h])
  ·rcases List.mem_cons.1 h with h|h
   ·exact .inr (by simp[h])
   ·rcases EK z e r h with h|h
    ·exact .inl h
    ·exact .inr (by simp[h])
theorem EL{a b x:Nat}:∀{m:List Ed},uK a b m=some x→∃e∈m,e.f=a∧e.t=b∧e.c=x
 |[],h=>by cases h
 |e::r,h=>by
  simp only[uK]at h;split at h
  ·rename_i h2;cases h;exact⟨e,by simp,h2.1.symm,h2.2.symm,rfl⟩
  ·obtain⟨e',h1,h2⟩:=EL h;exact⟨e',by simp[h1],h2⟩
theorem EM(z:Ed):∀m,(tG z m).length≤m.length+1
 |[]=>by simp[tG]
 |e::r=>by
  simp only[tG];split
  ·simp
  ·have:=EM z r;simp;omega
def JK(fr:Bool)(m:List Ed)(p:Fp):List Ed:=if(fr&& !p.free)=true then m else match uK p.a p.b m with
 |none=>tG p.ed m
 |some x=>if p.c<x then tG p.ed m else m
def ju(fr:Bool)(l:List Fp):List Ed:=l.foldl (JK fr) []
theorem BO(fr:Bool)(l:List Fp)(p:Fp):ju fr (l++[p])=JK fr (ju fr l) p:=by simp[ju]
def counted(fr:Bool)(l:List Fp):List Ed:=(l.filter fun p=> !(fr&& !p.free)).map Fp.ed
theorem JL(fr:Bool)(l:List Fp):(∀e∈ju fr l,e∈counted fr l)∧(∀e∈counted fr l,∃x,uK e.f e.t (ju fr l)=some x∧x≤e.c)∧(ju fr l).length≤l.length:=by
 rw[←List.reverse_reverse l];induction l.reverse with
 |nil=>exact⟨(fun e h=>by simp[ju]at h),(fun e h=>by simp[counted]at h),Nat.le_refl _⟩
 |cons p l ih=>
  rw[List.reverse_cons,BO];obtain⟨i1,i2,i3⟩:=ih;have hc:counted fr (l.reverse++[p])=counted fr l.reverse++(if(fr&& !p.free)=true then[]else[p.ed]):=by
   unfold counted;rw[List.filter_append,List.map_append];congr 1;cases hb:(fr&& !p.free)with
   |true=>simp only[List.filter_cons,hb,Bool.not_true,Bool.false_eq_true,if_false,List.filter_nil,List.map_nil,if_true]
   |false=>simp only[List.filter_cons,hb,Bool.not_false,Bool.false_eq_true,if_false,List.filter_nil,List.map_nil,List.map_cons,if_true]
  rw[hc];unfold JK;by_cases h:(fr&& !p.free)=true
  ·rw[if_pos h,if_pos h];exact⟨fun e he=>by simpa using i1 e he,fun e he=>i2 e (by simpa using he),by simp at i3⊢;omega⟩
  ·rw[if_neg h,if_neg h];have put:(∀e∈tG p.ed (ju fr l.reverse),e∈counted fr l.reverse++[p.ed]):=fun e he=>by
    rcases EK _ _ _ he with rfl|he
    ·simp
    ·exact List.mem_append_left _ (i1 e he)
   have len:(tG p.ed (ju fr l.reverse)).length≤(l.reverse++[p]).length:=by have:=EM p.ed (ju fr l.reverse);simp at i3⊢;omega
   cases hb:uK p.a p.b (ju fr l.reverse)with
   |none=>
    refine⟨put,fun e he=>?_,len⟩;rw[zP];by_cases hk:e.f=p.ed.f∧e.t=p.ed.t
    ·rw[if_pos hk];rcases List.mem_append.1 he with he|he
     ·obtain⟨x,h1,_⟩:=i2 e he;rw[hk.1,hk.2]at h1;rw[show p.ed.f=p.a from rfl,show p.ed.t=p.b from rfl,hb]at h1;cases h1
     ·simp at he;subst he;exact⟨_,rfl,Nat.le_refl _⟩
    ·rw[if_neg hk];rcases List.mem_append.1 he with he|he
     ·exact i2 e he
     ·simp at he;subst he;exact absurd ⟨rfl,rfl⟩ hk
   |some x=>
    dsimp only;by_cases hx:p.c<x
    ·rw[if_pos hx];refine⟨put,fun e he=>?_,len⟩;rw[zP];by_cases hk:e.f=p.ed.f∧e.t=p.ed.t
     ·rw[if_pos hk];rcases List.mem_append.1 he with he|he
      ·obtain⟨y,h1,h2⟩:=i2 e he;rw[hk.1,hk.2,show p.ed.f=p.a from rfl,show p.ed.t=p.b from rfl,hb]at h1;cases h1;exact⟨_,rfl,by show p.c≤e.c;omega⟩
      ·simp at he;subst he;exact⟨_,rfl,Nat.le_refl _⟩
     ·rw[if_neg hk];rcases List.mem_append.1 he with he|he
      ·exact i2 e he
      ·simp at he;subst he;exact absurd ⟨rfl,rfl⟩ hk
    ·rw[if_neg hx];refine⟨fun e he=>List.mem_append_left _ (i1 e he),fun e he=>?_,by simp at i3⊢;omega⟩;rcases List.mem_append.1 he with he|he
     ·exact i2 e he
     ·simp at he;subst he;exact⟨x,hb,by show x≤p.c;omega⟩
def kj(e:Ed):PV×PV:=(.agg [.int .i64 e.f,.int .i64 e.t,.bool false],.int .i64 e.c)
theorem WY(a b c d:Nat):cA (PV.agg [.int .i64 a,.int .i64 b,.bool false]).cells (PV.agg [.int .i64 c,.int .i64 d,.bool false]).cells=decide (a=c∧b=d):=by
 have h:∀x y:Nat,((x:Int)==(y:Int))=decide (x=y):=fun x y=>by
  by_cases h:x=y
  ·simp[h]
  ·rw[decide_eq_false h,beq_eq_false_iff_ne];omega
 simp only[PV.cells,cA,peq,Bool.and_true,h,beq_self_eq_true,Bool.decide_and]
theorem R4(a b:Nat):∀m:List Ed,dB (.agg [.int .i64 a,.int .i64 b,.bool false]) (.int .i64 0) (m.map kj)=.int .i64 (((uK a b m).getD 0:Nat):Int)∧qn (.agg [.int .i64 a,.int .i64 b,.bool false]) (m.map kj)=(uK a b m).isSome
 |[]=>⟨rfl,rfl⟩
 |e::r=>by
  obtain⟨h1,h2⟩:=R4 a b r;simp only[List.map_cons,kj,dB,qn,WY,uK];by_cases h:a=e.f∧b=e.t
  ·simp[h]
  ·simp only[h,decide_false,Bool.false_eq_true,if_false,Bool.false_or];exact⟨h1,h2⟩
theorem TX(z:Ed):∀m:List Ed,eA (.agg [.int .i64 z.f,.int .i64 z.t,.bool false]) (.int .i64 z.c) (m.map kj)=(tG z m).map kj
 |[]=>rfl
 |e::r=>by
  have ih:=TX z r;simp only[List.map_cons,eA,tG];rw[show(kj e)=(PV.agg [.int .i64 e.f,.int .i64 e.t,.bool false],PV.int .i64 e.c)from rfl];simp only[WY];by_cases h:z.f=e.f∧z.t=e.t
  ·simp[h,kj]
  ·simp only[h,decide_false,Bool.false_eq_true,if_false,List.map_cons,ih];rfl
theorem yT{R:Type}{n:Nat}{g:Nat→Option R}{r:R}(hn:0<n)(h:∀i,i<n→g i=some r):nD n g=some r:=by unfold nD;have hh:∃r,∀i,i<n→g i=some r:=⟨r,h⟩;rw[dif_pos hh];have:=Classical.choose_spec hh 0 hn;rw[h 0 hn]at this;exact this.symm
theorem Lh{n:Nat}(hn:n≤64)(r:PV)(WZ:List Ed→Prop)(mz:∀acc,WZ acc→∃D,dH [.int .i64 n,.rs 3 (acc.map Ed.pv)]=some (.bA [.rs 1 D,.int .i64 0])∧r=.rs 1 D):∀(rem acc:List Ed)(N:Nat),rem.length<N→acc.length+rem.length≤4096→(∀l,(∀y,y∈l↔y∈acc∨y∈rem)→l.length=acc.length+rem.length→WZ l)→cd (dY dM) N ((n:Int),acc.map Ed.pv,rem.map kj,())=some r:=by
 intro rem;generalize hk:rem.length=k;induction k generalizing rem with
 |zero=>
  intro acc N hN hl hg;have:rem=[]:=List.eq_nil_of_length_eq_zero hk;subst this;obtain⟨N,rfl⟩:∃m,N=m+1:=⟨N-1,by omega⟩;simp only[cd];unfold dY;dsimp only;rw[if_pos (show(List.map kj []).isEmpty=true from rfl)];obtain⟨D,h1,h2⟩:=mz acc (hg acc (fun y=>by simp) (by simp));have e2:cB 2 (.bA [.rs 1 D,.int .i64 0])=some [.rs 1 D,.int .i64 0]:=rfl;have e3:ae 1 (.rs 1 D)=some D:=by simp[ae]
  rw[h1,U,e2,U];simp only[List.getD_cons_zero,List.getD_cons_succ,e3,U,EE];rw[h2]
 |succ k ih=>
  intro acc N hN hl hg;obtain⟨N,rfl⟩:∃m,N=m+1:=⟨N-1,by omega⟩;simp only[cd];generalize CE:cd (dY dM) N=rec;unfold dY;dsimp only
  have cq:¬(rem.map kj).isEmpty=true:=by cases rem with
   |nil=>simp at hk
   |cons _ _=>simp
  rw[if_neg cq];refine yT (by simp;omega) fun i hi=>?_;have lD:i<rem.length:=by simpa using hi
  obtain⟨e,he⟩:∃e,rem[i]?=some e:=⟨_,List.getElem?_eq_getElem lD⟩;have Cq:(rem.map kj)[i]?=some (kj e):=by rw[List.getElem?_map,he];rfl
  have dc:(acc.map Ed.pv++[PV.agg [.int .i64 e.f,.int .i64 e.t,.int .i64 e.c]]).length*24≤aa∧0<24:=by simp only[List.length_append,List.length_map,List.length_cons,List.length_nil];unfold aa;omega
  have Cl:acc.map Ed.pv++[PV.agg [.int .i64 e.f,.int .i64 e.t,.int .i64 e.c]]=(acc++[e]).map Ed.pv:=by simp[Ed.pv]
  have TY:(rem.map kj).eraseIdx i=(rem.eraseIdx i).map kj:=by apply List.ext_getElem?;intro j;simp only[List.getElem?_eraseIdx,List.getElem?_map];split<;>rfl
  have hle:(rem.eraseIdx i).length=k:=by rw[List.length_eraseIdx];simp[lD];omega
  rw[Cq,U];rw[Cl]at dc;simp only[kj,ag3,WS,TV,EE,U,Cl,if_pos dc,TY];rw[←CE];refine ih (rem.eraseIdx i) hle (acc++[e]) N (by omega) (by simp;omega) fun l L5 DN=>hg l (fun y=>?_) (by rw[DN];simp;omega);rw[L5];have cQ:y∈rem↔y=e∨y∈rem.eraseIdx i:=by
   rw[List.mem_eraseIdx_iff_getElem?];constructor
   ·intro hy;obtain⟨j,hj⟩:=List.getElem?_of_mem hy;by_cases LZ:j=i
    ·subst LZ;rw[he]at hj;exact .inl (Option.some.inj hj).symm
    ·exact .inr ⟨j,LZ,hj⟩
   ·rintro(rfl|⟨j,_,hj⟩)
    ·exact List.mem_of_getElem? he
    ·exact List.mem_of_getElem? hj
  rw[cQ];simp only[List.mem_append,List.mem_singleton];constructor
  ·rintro((h|h)|h)
   ·exact .inl h
   ·exact .inr (.inl h)
   ·exact .inr (.inr h)
  ·rintro(h|h|h)
   ·exact .inl (.inl h)
   ·exact .inl (.inr h)
   ·exact .inr h
end Go.Ab.Nw
namespace Go.Ab.Nw
set_option maxRecDepth 100000
set_option linter.unusedVariables false
set_option linter.unusedSimpArgs false
theorem CW.leq{E E':List Ed}(h:∀e∈E,∃e'∈E',e'.f=e.f∧e'.t=e.t∧e'.c≤e.c){s v L:Nat}(hr:CW E s v L):∃L',L'≤L∧CW E' s v L':=by
 rcases hr with⟨h1,h2⟩|hr
 ·exact⟨L,Nat.le_refl _,.inl ⟨h1,h2⟩⟩
 ·obtain⟨L',l1,l2⟩:=hr.leq (w':=ew E') fun i j c hc=>by
   obtain⟨e',m,e1,e2,e3⟩:=h _ hc;refine⟨e'.c,e3,?_⟩;unfold ew;have:(⟨i,j,e'.c⟩:Ed)=e':=by have e1:e'.f=i:=e1;have e2:e'.t=j:=e2;rw[←e1,←e2]
   rw[this];exact m
  exact⟨L',l1,.inr l2⟩
theorem Ow{fr:Bool}{l:List Fp}{M s v:Nat}{d:Int}(h:Hw (ju fr l) M s v d):Hw (counted fr l) M s v d:=by
 obtain⟨b1,b2,_⟩:=JL fr l;have low:∀{L},CW (counted fr l) s v L→∃L',L'≤L∧CW (ju fr l) s v L':=fun hr=>hr.leq fun e he=>by obtain⟨x,h1,h2⟩:=b2 e he;obtain⟨e',m,e1,e2,e3⟩:=EL h1;exact⟨e',m,e1,e2,by omega⟩
 rcases h with⟨e,h1⟩|⟨L,e,hM,h1,h2⟩
 ·refine .inl ⟨e,fun L hL=>?_⟩;obtain⟨L',_,hL'⟩:=low hL;exact h1 L' hL'
 ·refine .inr ⟨L,e,hM,h1.mem b1,fun L' hL=>?_⟩;obtain⟨L'',l1,l2⟩:=low hL;exact Nat.le_trans (h2 L'' l2) l1
theorem xf{fr:Bool}{l:List Fp}{e:Ed}(h:e∈counted fr l):∃p∈l,p.ed=e:=by unfold counted at h;obtain⟨p,hp,rfl⟩:=List.mem_map.1 h;exact⟨p,(List.mem_filter.1 hp).1,rfl⟩
theorem JM(l:List Fp)(n B:Nat)(hn:n≤64)(hl:l.length≤4096)(hB:B≤1073741824)(h:∀p∈l,p.a<n∧p.b<n∧p.c≤B)(fr:Bool):∃D:Nat→Nat→Int,(∀s v,s<n→v<n→Hw (counted fr l) (B*n) s v (D s v))∧bS [.rs 4 (l.map Fp.pv),.int .i64 n,.bool fr]=some (.rs 1 (iR n D)):=by
 obtain⟨b1,b2,b3⟩:=JL fr l;have hbe:∀y∈ju fr l,y.f<n∧y.t<n∧y.c≤B:=fun y hy=>by obtain⟨p,hp,rfl⟩:=xf (b1 y hy);exact h p hp
 obtain⟨D,d1,d2⟩:=Ou (ju fr l) n B hn (by omega) hB hbe;refine⟨D,fun s v hs hv=>Ow (d1 s v hs hv),?_⟩;have e0:ae 4 (.rs 4 (l.map Fp.pv))=some (l.map Fp.pv):=by simp[ae]
 simp only[bS,jg,e0,U,EE,asBool];refine cU (fun k=>((n:Int),fr,l.map Fp.pv,((l.map Fp.pv).length:Int),(k:Int),(ju fr (l.take k)).map kj,())) l.length (fun k hk rec=>?_) (fun rec=>?_) (by unfold rounds;omega) (by simp[ju])
 ·unfold gz;dsimp only;have hg:decide ((k:Int)<((l.map Fp.pv).length:Int))=true:=by simp;omega
  obtain⟨p,hp⟩:∃p,l[k]?=some p:=⟨_,List.getElem?_eq_getElem hk⟩;have Cq:(l.map Fp.pv)[k]?=some p.pv:=by rw[List.getElem?_map,hp];rfl
  have htk:l.take (k+1)=l.take k++[p]:=by rw[List.take_add_one,hp];rfl
  have hr7:(bif fr then(asBool (cell p.pv 3)).bind fun b6=>some !b6 else some false)=some (fr&& !p.free):=by rw[fp3];cases fr<;>rfl
  obtain⟨g1,g2⟩:=R4 p.a p.b (ju fr (l.take k));rw[if_pos hg,aV,Cq,U,hr7,U,aI (by omega),htk,BO];unfold JK;by_cases hf:(fr&& !p.free)=true
  ·rw[if_pos hf,if_pos hf]
  ·rw[if_neg hf,if_neg hf];simp only[fp0,fp1,fp2,EE,U,g1,g2];cases hb:uK p.a p.b (ju fr (l.take k))with
   |none=>simp only[Option.isSome_none,Bool.not_false,cond_true,U,if_true];rw[show(p.c:Int)=((p.ed.c:Nat):Int)from rfl,show(p.a:Int)=((p.ed.f:Nat):Int)from rfl,show(p.b:Int)=((p.ed.t:Nat):Int)from rfl,TX]
   |some x=>
    simp only[Option.isSome_some,Bool.not_true,cond_false,U,Option.getD_some];by_cases hx:p.c<x
    ·have hd:decide ((p.c:Int)<(x:Int))=true:=by simp;omega
     simp only[hd,if_true,if_pos hx];rw[show(p.c:Int)=((p.ed.c:Nat):Int)from rfl,show(p.a:Int)=((p.ed.f:Nat):Int)from rfl,show(p.b:Int)=((p.ed.t:Nat):Int)from rfl,TX]
    ·have hd:decide ((p.c:Int)<(x:Int))=false:=by simp;omega
     simp only[hd,Bool.false_eq_true,if_false,if_neg hx]
 ·unfold gz;dsimp only;have L5:((ju fr (l.take l.length)).map kj).length≤maxLen:=by
   rw[List.take_length,List.length_map];have:(4096:Nat)≤maxLen:=by decide
   omega
  have dc:(0:Int)≤0∧0≤((((ju fr (l.take l.length)).map kj).length:Nat):Int)∧((((ju fr (l.take l.length)).map kj).length:Nat):Int).toNat*24≤aa∧0<24∧0<3:=by refine⟨by omega,by omega,?_,by omega,by omega⟩;rw[Int.toNat_natCast,List.take_length,List.length_map];unfold aa;omega
  rw[if_neg (by simp),if_pos L5,if_pos dc,List.take_length,jN];have hp:=Lh hn (.rs 1 (iR n D)) (fun acc=>(∀y,y∈ju fr l↔y∈acc)∧acc.length≤4096) (fun acc⟨h1,h2⟩=>⟨_,Ov (ju fr l) acc n B hn h2 hB hbe h1 d1,rfl⟩) (ju fr l) [] rounds (by unfold rounds;omega) (by simp;omega) (fun l' h1 h2=>⟨fun y=>by rw[h1];simp,by rw[h2];simp;omega⟩);exact hp
end Go.Ab.Nw
namespace Go.Ab.Nw
abbrev Mx:=Nat→Nat→Nat
def QQ(d:Mx)(i j x:Nat):Mx:=fun a b=>if a=i∧b=j then x else d a b
def dj(k i:Nat)(d:Mx):Nat→Mx
 |0=>d
 |j+1=>QQ (dj k i d j) i j (min (dj k i d j i j) (dj k i d j i k+dj k i d j k j))
def di(n k:Nat)(d:Mx):Nat→Mx
 |0=>d
 |i+1=>dj k i (di n k d i) n
def dk(n:Nat)(d:Mx):Nat→Mx
 |0=>d
 |k+1=>di n k (dk n d k) n
structure L6(w:Nat→Nat→Nat→Prop)(inf n k i j:Nat)(d:Mx):Prop where
 fw:Fw w inf n d
 jG:∀a b,a<n→b<n→nc w k a b (d a b)
 new:∀a b,a<n→b<n→(a<i∨(a=i∧b<j))→nc w (k+1) a b (d a b)
variable {w:Nat→Nat→Nat→Prop} {inf n:Nat}
theorem nc.le{k i j x y:Nat}(h:nc w k i j x)(hy:y≤x):nc w k i j y:=fun L hL=>Nat.le_trans hy (h L hL)
theorem L6.cell{k i j:Nat}{d:Mx}(h:L6 w inf n k i j d)(hi:i<n)(hj:j<n)(hk:k<n):L6 w inf n k i (j+1) (QQ d i j (min (d i j) (d i k+d k j))):=by
 obtain⟨h1,h2,h3⟩:=QJ h.fw hi hj hk (x:=min (d i j) (d i k+d k j)) rfl (d':=QQ d i j (min (d i j) (d i k+d k j))) (fun a b=>rfl);refine⟨h1,fun a b ha hb=>(h.jG a b ha hb).le (h2 a b),fun a b ha hb hd=>?_⟩;by_cases e:a=i∧b=j
 ·obtain⟨rfl,rfl⟩:=e;exact h3 (h.jG _ _ ha hk) (h.jG _ _ hk hb) (h.jG _ _ ha hb)
 ·exact(h.new a b ha hb (by omega)).le (h2 a b)
theorem L6.row{k i:Nat}{d:Mx}(h:L6 w inf n k i 0 d)(hi:i<n)(hk:k<n):∀j,j≤n→L6 w inf n k i j (dj k i d j)
 |0,_=>h
 |j+1,hj=>(L6.row h hi hk j (by omega)).cell hi (by omega) hk
theorem L6.rows{k:Nat}{d:Mx}(h:L6 w inf n k 0 0 d)(hk:k<n):∀i,i≤n→L6 w inf n k i 0 (di n k d i)
 |0,_=>h
 |i+1,hi=>by have:=(L6.rows h hk i (by omega)).row (by omega) hk n (Nat.le_refl _);exact⟨this.fw,this.jG,fun a b ha hb hd=>this.new a b ha hb (by omega)⟩
structure Ox(w:Nat→Nat→Nat→Prop)(inf n k:Nat)(d:Mx):Prop where
 fw:Fw w inf n d
 low:∀a b,a<n→b<n→nc w k a b (d a b)
theorem Ox.rounds{d:Mx}(h:Ox w inf n 0 d):∀k,k≤n→Ox w inf n k (dk n d k)
 |0,_=>h
 |k+1,hk=>by have ih:=Ox.rounds h k (by omega);have:=L6.rows (k:=k) ⟨ih.fw,ih.low,fun a b ha hb hd=>by omega⟩ (by omega) n (Nat.le_refl _);exact⟨this.fw,fun a b ha hb=>this.new a b ha hb (.inl ha)⟩
def R5(inf:Nat):Mx:=fun _ _=>inf
def lay(d:Mx)(e:Ed):Mx:=QQ d e.f e.t (min (d e.f e.t) e.c)
def start(inf:Nat)(E:List Ed):Mx:=E.foldl lay (R5 inf)
theorem Hx(inf:Nat)(E:List Ed)(e:Ed):start inf (E++[e])=lay (start inf E) e:=by simp[start]
theorem Oy(E:List Ed):(∀i j,start inf E i j≤inf)∧(∀i j,start inf E i j<inf→(⟨i,j,start inf E i j⟩:Ed)∈E)∧∀e∈E,start inf E e.f e.t≤e.c:=by
 rw[←List.reverse_reverse E];induction E.reverse with
 |nil=>exact⟨fun i j=>Nat.le_refl _,fun i j h=>by simp[start,R5]at h,fun e h=>by cases h⟩
 |cons e l ih=>
  rw[List.reverse_cons,Hx];obtain⟨i1,i2,i3⟩:=ih;have hl:∀a b,lay (start inf l.reverse) e a b=if a=e.f∧b=e.t then min (start inf l.reverse e.f e.t) e.c else start inf l.reverse a b:=fun a b=>rfl;refine⟨fun a b=>?_,fun a b h=>?_,fun z hz=>?_⟩
  ·rw[hl];split
   ·have:=i1 e.f e.t;omega
   ·exact i1 a b
  ·rw[hl]at h⊢;split
   ·rename_i hk;rw[if_pos hk]at h;by_cases hm:start inf l.reverse e.f e.t≤e.c
    ·rw[show min (start inf l.reverse e.f e.t) e.c=start inf l.reverse e.f e.t by omega]at h⊢;rw[hk.1,hk.2];exact List.mem_append_left _ (i2 _ _ h)
    ·rw[show min (start inf l.reverse e.f e.t) e.c=e.c by omega,hk.1,hk.2];simp
   ·rename_i hk;rw[if_neg hk]at h;exact List.mem_append_left _ (i2 a b h)
  ·rw[hl];rcases List.mem_append.1 hz with hz|hz
   ·have:=i3 z hz;split
    ·rename_i hk;rw[hk.1,hk.2]at this;omega
    ·exact this
   ·simp at hz;subst hz;rw[if_pos ⟨rfl,rfl⟩];omega
theorem Hy(E:List Ed):Ox (ew E) inf n 0 (start inf E):=by obtain⟨h1,h2,h3⟩:=Oy (inf:=inf) E;exact⟨⟨fun i j _ _=>h1 i j,fun i j _ _ h=>.zN (h2 i j h)⟩,fun a b _ _ L hL=>h3 ⟨a,b,L⟩ hL⟩
theorem QR{E:List Ed}{M:Nat}(hE:∀y∈E,y.f<n∧y.t<n)(hM:M<inf){i j:Nat}(hi:i<n)(hj:j<n)(Kt:i≠j){D:Int}(hD:Hw E M i j D):(D= -1∧dk n (start inf E) n i j=inf)∨(D=(dk n (start inf E) n i j:Int)∧dk n (start inf E) n i j≤M):=by
 have hd:=(Hy (n:=n) (inf:=inf) E).rounds n (Nat.le_refl _);have W0:∀L,CW E i j L↔iH (ew E) i j L:=fun L=>⟨fun h=>by rcases h with⟨h,_⟩|h;exact absurd h.symm Kt;exact h,.inr⟩;have hs:=QK (w:=ew E) (fun a b c h=>(hE _ h).1) hd.fw hi hj (hd.low i j hi hj) (fun L P5 hw=>by
  rcases hD with⟨_,h⟩|⟨L',_,hle,h1,h2⟩
  ·exact absurd ((W0 L).2 hw) (h L)
  ·have:=P5 L' ((W0 L').1 h1);omega)
 rcases hD with⟨e,h⟩|⟨L',e,hle,h1,h2⟩
 ·left;refine⟨e,?_⟩;have acP:=hd.fw.top i j hi hj;by_cases ba:dk n (start inf E) n i j<inf
  ·exact absurd ((W0 _).2 (hd.fw.real i j hi hj ba)) (h _)
  ·omega
 ·right;have:(if dk n (start inf E) n i j<inf then some (dk n (start inf E) n i j)else none)=some L':=hs.unique ⟨(W0 L').1 h1,fun L'' hw=>h2 L'' ((W0 L'').2 hw)⟩;split at this
  ·simp only[Option.some.injEq]at this;exact⟨by rw[e,this],by omega⟩
  ·cases this
end Go.Ab.Nw
namespace Go.Ab.Nw
set_option maxRecDepth 100000
set_option linter.unusedVariables false
set_option linter.unusedSimpArgs false
theorem cI(x:Int):cell (.int .i64 x) 0=.int .i64 x:=rfl
end Go.Ab.Nw
namespace Go.Ab.Nw
set_option maxRecDepth 100000
set_option linter.unusedVariables false
set_option linter.unusedSimpArgs false
abbrev Hz:Nat:=1099511627776
end Go.Ab.Nw
namespace Go.Ab.Nw
set_option maxRecDepth 100000
set_option linter.unusedVariables false
set_option linter.unusedSimpArgs false
def UZ(i k:Nat)(s:Int)(b:Bool):PV:=.agg [.int .i64 i,.int .i64 k,.int .i64 s,.bool b]
def QF(w f:Int)(i k:Nat):List PV:=if i=k∨w>14400 then[]else UZ i k w (f==w)::(if f>w∧f≤14400 then[UZ i k f true]else[])
def wa(n:Nat)(it:Nat→Nat→List PV)(i:Nat):List PV:=(List.range n).flatMap (it i)
def xE(n:Nat)(it:Nat→Nat→List PV)(m:Nat):List PV:=(List.range m).flatMap (wa n it)
theorem BP(n:Nat)(it:Nat→Nat→List PV)(i:Nat):wa (n+1) it i=wa n it i++it i n:=by simp[wa,List.range_succ,List.flatMap_append]
theorem BQ(n:Nat)(it:Nat→Nat→List PV)(m:Nat):xE n it (m+1)=xE n it m++wa n it m:=by simp[xE,List.range_succ,List.flatMap_append]
theorem zQ{it:Nat→Nat→List PV}(h:∀i k,(it i k).length≤2)(i:Nat):∀k,(wa k it i).length≤2*k
 |0=>by simp[wa]
 |k+1=>by rw[BP,List.length_append];have:=zQ h i k;have:=h i k;omega
theorem zF{it:Nat→Nat→List PV}(h:∀i k,(it i k).length≤2)(n:Nat):∀m,(xE n it m).length≤2*n*m
 |0=>by simp[xE]
 |m+1=>by rw[BQ,List.length_append,Nat.mul_succ];have:=zF h n m;have:=zQ h m n;omega
theorem QG(w f:Int)(i k:Nat):(QF w f i k).length≤2:=by
 unfold QF;split
 ·simp
 ·split<;>simp
theorem Li{n k:Nat}(D:Nat→Int)(h:k<n):(qg n D)[k]?=some (.int .i64 (D k)):=by simp[qg,h]
theorem BR{n i:Nat}(D:Nat→Nat→Int)(h:i<n):(iR n D)[i]?=some (.rs 1 (qg n (D i))):=by simp[iR,h]
theorem W2(es:List PV):ae 1 (cell (.rs 1 es) 0)=some es:=by show ae 1 (.rs 1 es)=some es;simp[ae]
theorem tS{a:List PV}(h:a.length≤16384):a.length*32≤aa∧0<32:=by unfold aa;omega
def sA(n:Nat)(l:List Fp)(fr:Bool)(i j:Nat):Int:=((dk n (start Hz (counted fr l)) n i j:Nat):Int)
end Go.Ab.Nw
namespace Go.Ab.Nw
set_option maxRecDepth 100000
set_option linter.unusedVariables false
set_option linter.unusedSimpArgs false
def Fy(w f:Int)(i k:Nat):List PV:=if i=k then[]else(if 0<w∧w≤14400 then[UZ i k w (f==w)]else[])++(if f≠w∧0<f∧f≤14400 then[UZ i k f true]else[])
theorem iH.pos{w:Nat→Nat→Nat→Prop}(h:∀i j c,w i j c→1≤c){i j L:Nat}(hw:iH w i j L):1≤L:=by
 cases hw with
 |zN e=>exact h _ _ _ e
 |snoc _ e=>have:=h _ _ _ e;omega
def nd(M:Nat)(d w:Int):Prop:=(d= -1∧w=(Hz:Int))∨(d=w∧1≤w∧w≤M)
theorem W3{M:Nat}(hM:M<Hz){d0 d1 w f:Int}(h0:nd M d0 w)(h1:nd M d1 f)(Km:d1≠-1→d0≠-1∧d0≤d1)(i k:Nat):Fy d0 d1 i k=QF w f i k:=by
 unfold Fy QF;by_cases zR:i=k
 ·rw[if_pos zR,if_pos (.inl zR)]
 ·rw[if_neg zR];have hM:(M:Int)<1099511627776:=by have:M<1099511627776:=hM;omega
  have aa1:((Hz:Nat):Int)=1099511627776:=rfl;rw[nd,aa1]at h0 h1;rcases h0 with⟨e0,w0⟩|⟨e0,w1,w2⟩
  ·have e1:d1= -1:=by
    by_cases h:d1= -1
    ·exact h
    ·exact absurd e0 (Km h).1
   rw[if_neg (by omega),if_neg (by omega),if_pos (.inr (by omega))];rfl
  ·subst e0;rcases h1 with⟨e1,f0⟩|⟨e1,f1,f2⟩
   ·by_cases hw:d0≤14400
    ·have b1:(d1==d0)=false:=by rw[beq_eq_false_iff_ne];omega
     have b2:(f==d0)=false:=by rw[beq_eq_false_iff_ne];omega
     rw[if_pos ⟨by omega,hw⟩,if_neg (by omega),if_neg (by omega),if_neg (by omega),b1,b2];rfl
    ·rw[if_neg (by omega),if_neg (by omega),if_pos (.inr (by omega))];rfl
   ·subst e1;have hle:=(Km (by omega)).2;by_cases hw:d0≤14400
    ·rw[if_pos ⟨by omega,hw⟩,if_neg (show¬(i=k∨d0>14400) by omega)];by_cases hf:d1>d0∧d1≤14400
     ·rw[if_pos hf,if_pos ⟨by omega,by omega,by omega⟩];rfl
     ·rw[if_neg hf,if_neg (by omega)];rfl
    ·rw[if_neg (by omega),if_neg (by omega),if_pos (.inr (by omega))];rfl
theorem JN{l:List Fp}{n B:Nat}(hn:n≤64)(hB:B≤1073741824)(h:∀p∈l,p.a<n∧p.b<n∧1≤p.c∧p.c≤B)(fr:Bool){i k:Nat}(hi:i<n)(hk:k<n)(zR:i≠k){d:Int}(hd:Hw (counted fr l) (B*n) i k d):nd (B*n) d (sA n l fr i k):=by
 have hE:∀y∈counted fr l,y.f<n∧y.t<n∧1≤y.c:=fun y hy=>by obtain⟨p,hp,rfl⟩:=xf hy;obtain⟨a,b,c,_⟩:=h p hp;exact⟨a,b,c⟩
 have hM:B*n<Hz:=by have:B*n≤1073741824*64:=Nat.mul_le_mul hB hn;show B*n<1099511627776;omega
 rcases QR (inf:=Hz) (fun y hy=>⟨(hE y hy).1,(hE y hy).2.1⟩) hM hi hk zR hd with⟨e1,e2⟩|⟨e1,e2⟩
 ·exact .inl ⟨e1,by unfold sA;rw[e2]⟩
 ·refine .inr ⟨e1,?_,by unfold sA;omega⟩;rcases hd with⟨e,_⟩|⟨L,e,_,hr,_⟩
  ·omega
  ·have:1≤L:=by
    rcases hr with⟨h,_⟩|hw
    ·exact absurd h.symm zR
    ·exact hw.pos fun a b c hc=>(hE _ hc).2.2
   unfold sA;omega
theorem QS{l:List Fp}{M i k:Nat}{d0 d1:Int}(h0:Hw (counted false l) M i k d0)(h1:Hw (counted true l) M i k d1)(cq:d1≠-1):d0≠-1∧d0≤d1:=by
 have sub:∀y,y∈counted true l→y∈counted false l:=fun y hy=>by unfold counted at hy⊢;obtain⟨p,hp,rfl⟩:=List.mem_map.1 hy;exact List.mem_map.2 ⟨p,List.mem_filter.2 ⟨(List.mem_filter.1 hp).1,rfl⟩,rfl⟩
 rcases h1 with⟨e,_⟩|⟨L1,e1,_,r1,_⟩
 ·exact absurd e cq
 ·have r:=r1.mem sub;rcases h0 with⟨_,h⟩|⟨L0,e0,_,_,m0⟩
  ·exact absurd r (h L1)
  ·have:=m0 L1 r;omega
end Go.Ab.Nw
namespace Go.Ab.Nw
set_option maxRecDepth 100000
set_option linter.unusedVariables false
set_option linter.unusedSimpArgs false
theorem JO(w f:Int)(i k:Nat):(Fy w f i k).length≤2:=by
 unfold Fy;split
 ·simp
 ·rw[List.length_append];split<;>split<;>simp
theorem Lj(Lk:TY8→Option PV)(n i:Nat)(W F:Nat→Nat→Int)(hn:n≤64)(hi:i<n)(acc:List PV)(acQ:acc.length≤8192):dM.run (fF dM Lk) (iR n W,iR n F,(i:Int),(n:Int),(i:Int),qg n (W i),(n:Int),0,acc,())=Lk (iR n W,iR n F,(n:Int),IntKind.i64.wrap ((i:Int)+1),acc++wa n (fun i k=>Fy (W i k) (F i k) i k) i,()):=by
 refine cU (fun k=>(iR n W,iR n F,(i:Int),(n:Int),(i:Int),qg n (W i),(n:Int),(k:Int),acc++wa k (fun i k=>Fy (W i k) (F i k) i k) i,())) n (fun k hk rec=>?_) (fun rec=>?_) (by unfold rounds;omega) (by simp[wa])
 ·unfold fF;dsimp only;have hg:decide ((k:Int)<(n:Int))=true:=by simp;omega
  rw[BP];have hlen:=zQ (it:=fun i k=>Fy (W i k) (F i k) i k) (fun i k=>JO _ _ i k) i k;generalize hA:acc++wa k (fun i k=>Fy (W i k) (F i k) i k) i=A;have hAl:A.length≤8192+128:=by rw[←hA,List.length_append];omega
  rw[←List.append_assoc,hA];simp only[hg,if_true,aV,Li _ hk,BR _ hi,U,W2,cI,EE,aI (show k<9223372036854775807 by omega)];generalize W i k=w;generalize F i k=f;by_cases zR:i=k
  ·have hb:((i:Int)==(k:Int))=true:=by simp[zR]
   have hit:Fy w f i k=[]:=if_pos zR;simp only[hb,if_true,hit,List.append_nil]
  ·have hb:((i:Int)==(k:Int))=false:=by rw[beq_eq_false_iff_ne];omega
   have hand:∀x:Int,(bif decide (x>0)then some (decide (x≤14400))else some false)=some (decide (0<x∧x≤14400)):=fun x=>by
    by_cases h1:x>0
    ·have:(0<x∧x≤14400)↔x≤14400:=⟨fun h=>h.2,fun h=>⟨h1,h⟩⟩;rw[decide_eq_true h1,cond_true,decide_eq_decide.2 this.symm]
    ·have:¬(0<x∧x≤14400):=fun h=>h1 h.1;rw[decide_eq_false h1,cond_false,decide_eq_false this]
   have W4:(A++[PV.agg [.int .i64 i,.int .i64 k,.int .i64 w,.bool (f==w)]]).length*32≤aa∧0<32:=tS (by simp;omega);have Qc:(A++[PV.agg [.int .i64 i,.int .i64 k,.int .i64 w,.bool (f==w)]]++[PV.agg [.int .i64 i,.int .i64 k,.int .i64 f,.bool true]]).length*32≤aa∧0<32:=tS (by simp;omega);have Qd:(A++[PV.agg [.int .i64 i,.int .i64 k,.int .i64 f,.bool true]]).length*32≤aa∧0<32:=tS (by simp;omega);have cq:(f !=w)=decide (f≠w):=by
    by_cases h:f=w
    ·simp[h]
    ·simp[h]
   have hit:Fy w f i k=(if 0<w∧w≤14400 then[UZ i k w (f==w)]else[])++(if f≠w∧0<f∧f≤14400 then[UZ i k f true]else[]):=if_neg zR;simp only[hb,Bool.false_eq_true,if_false,hand,U,cq,decide_eq_true_eq,hit,if_pos W4,if_pos Qc,if_pos Qd];by_cases h1:0<w∧w≤14400
   ·by_cases h2:f≠w
    ·by_cases h3:0<f∧f≤14400
     ·rw[if_pos h1,if_pos h2,if_pos h3,if_pos h1,if_pos ⟨h2,h3⟩,List.append_assoc];rfl
     ·rw[if_pos h1,if_pos h2,if_neg h3,if_pos h1,if_neg (fun h=>h3 h.2)];rfl
    ·rw[if_pos h1,if_neg h2,if_pos h1,if_neg (fun h=>h2 h.1)];rfl
   ·by_cases h2:f≠w
    ·by_cases h3:0<f∧f≤14400
     ·rw[if_neg h1,if_pos h2,if_pos h3,if_neg h1,if_pos ⟨h2,h3⟩];rfl
     ·rw[if_neg h1,if_pos h2,if_neg h3,if_neg h1,if_neg (fun h=>h3 h.2)];simp
    ·rw[if_neg h1,if_neg h2,if_neg h1,if_neg (fun h=>h2 h.1)];simp
 ·unfold fF;dsimp only;rw[if_neg (by simp)]
theorem HA(n:Nat)(W F:Nat→Nat→Int)(hn:n≤64){es':List PV}(hs:re 4 (fun c a b=>aZ [a,b]) (xE n (fun i k=>Fy (W i k) (F i k) i k) n)=some es'):dM.run (fG dM) (iR n W,iR n F,(n:Int),0,[],())=some (.rs 4 es'):=by
 have hlen:∀i,i≤n→(xE n (fun i k=>Fy (W i k) (F i k) i k) i).length≤8192:=fun i hi=>by have h1:=zF (it:=fun i k=>Fy (W i k) (F i k) i k) (fun i k=>JO _ _ i k) n i;have hb:2*n*i≤2*64*64:=Nat.mul_le_mul (by omega) (by omega);omega
 refine cU (fun i=>(iR n W,iR n F,(n:Int),(i:Int),xE n (fun i k=>Fy (W i k) (F i k) i k) i,())) n (fun i hi rec=>?_) (fun rec=>?_) (by unfold rounds;omega) rfl
 ·unfold fG;dsimp only;have hg:decide ((i:Int)<(n:Int))=true:=by simp;omega
  have Ts:((qg n (W i)).length:Int)=(n:Int):=by simp[qg]
  rw[if_pos hg,aV,BR _ hi,U,W2,U,Ts,Lj rec n i W F hn hi _ (hlen i (by omega)),BQ,aI (by omega)]
 ·unfold fG;dsimp only;have h:=hlen n (Nat.le_refl _);rw[if_neg (by simp),if_pos (by(first|refine⟨rfl,?_,rfl⟩|refine⟨rfl,?_⟩);unfold aa;omega),hs];rfl
end Go.Ab.Nw
namespace Go.Ab.Nw
set_option maxRecDepth 100000
set_option linter.unusedVariables false
set_option linter.unusedSimpArgs false
def kI:PV→Int
 |.int _ n=>n
 |_=>0
def c3(x y:Int):Int:=if x<y then-1 else if x>y then 1 else 0
def W5(a b c:Int):Int:=if a≠0 then a else if b≠0 then b else c
def R6(a b:List PV):Int:=W5 (c3 (kI (a.getD 0 .bad)) (kI (b.getD 0 .bad))) (c3 (kI (a.getD 1 .bad)) (kI (b.getD 1 .bad))) (c3 (kI (a.getD 2 .bad)) (kI (b.getD 2 .bad)))
theorem HB(x y:Int):cy [.int .i64 x,.int .i64 y]=some (.int .i64 (c3 x y)):=by
 have h:∀z:Int,¬(z !=z)=true:=fun z=>by simp
 simp only[cy,lL,EE,U,if_neg (h x),if_neg (h y),decide_eq_true_eq];unfold c3;split
 ·rfl
 ·split<;>rfl
theorem W6(a b c:Int):gb [.rs 1 [.int .i64 a,.int .i64 b,.int .i64 c]]=some (.int .i64 (W5 a b c)):=by
 have e0:ae 1 (.rs 1 [.int .i64 a,.int .i64 b,.int .i64 c])=some [.int .i64 a,.int .i64 b,.int .i64 c]:=by simp[ae]
 simp only[gb,tw,e0,U];obtain⟨es,Aq⟩:∃es,es=[PV.int .i64 a,.int .i64 b,.int .i64 c]:=⟨_,rfl⟩;have hl:((es.length:Nat):Int)=3:=by rw[Aq];rfl
 rw[←Aq];have hb:∀(k:Nat)(x:Int),es[k]?=some (.int .i64 x)→k<3→∀rec,ei (0,es,((es.length:Nat):Int),(k:Int),()) rec=if x≠0 then some (.int .i64 x)else rec (0,es,((es.length:Nat):Int),((k+1:Nat):Int),()):=fun k x hx hk rec=>by
  unfold ei;dsimp only;have hg:decide ((k:Int)<((es.length:Nat):Int))=true:=by rw[hl];simp;omega
  rw[if_pos hg,aV,hx,U,cI,EE,U,aI (by omega)];by_cases h:x=0
  ·subst h;rfl
  ·have:(x !=0)=true:=by simpa using h
   rw[if_pos this,if_pos h]
 have he:∀rec,ei (0,es,((es.length:Nat):Int),((3:Nat):Int),()) rec=some (.int .i64 0):=fun rec=>by
  unfold ei;dsimp only;have hg:¬decide (((3:Nat):Int)<((es.length:Nat):Int))=true:=by rw[hl];decide
  rw[if_neg hg]
 have hN:rounds=18446744073709551612+1+1+1+1:=rfl;rw[jN,hN];generalize 18446744073709551612=N;show ei (0,es,((es.length:Nat):Int),((0:Nat):Int),()) _=_;rw[hb 0 a (by rw[Aq];rfl) (by omega)];unfold W5;by_cases h1:a≠0
 ·rw[if_pos h1,if_pos h1]
 ·rw[if_neg h1,if_neg h1];show ei (0,es,((es.length:Nat):Int),((1:Nat):Int),()) _=_;rw[hb 1 b (by rw[Aq];rfl) (by omega)];by_cases h2:b≠0
  ·rw[if_pos h2,if_pos h2]
  ·rw[if_neg h2,if_neg h2];show ei (0,es,((es.length:Nat):Int),((2:Nat):Int),()) _=_;rw[hb 2 c (by rw[Aq];rfl) (by omega)];by_cases h3:c≠0
   ·rw[if_pos h3]
   ·rw[if_neg h3];show ei (0,es,((es.length:Nat):Int),((3:Nat):Int),()) _=_;rw[he];have:c=0:=Decidable.not_not.1 h3;rw[this]
def L7(i k:Nat)(s:Int)(b:Bool):List PV:=[.int .i64 i,.int .i64 k,.int .i64 s,.bool b]
theorem Oz(i k:Nat)(s:Int)(b:Bool)(i' k':Nat)(s':Int)(b':Bool):aZ [sy (L7 i k s b),sy (L7 i' k' s' b')]=some (.int .i64 (R6 (L7 i k s b) (L7 i' k' s' b'))):=by have a:∀(w x y z:PV),asAgg 4 (.agg [w,x,y,z])=some ():=fun _ _ _ _=>rfl;have a0:∀(w x y z:PV),cell (.agg [w,x,y,z]) 0=w:=fun _ _ _ _=>rfl;have a1:∀(w x y z:PV),cell (.agg [w,x,y,z]) 1=x:=fun _ _ _ _=>rfl;have a2:∀(w x y z:PV),cell (.agg [w,x,y,z]) 2=y:=fun _ _ _ _=>rfl;have a3:∀(w x y z:PV),cell (.agg [w,x,y,z]) 3=z:=fun _ _ _ _=>rfl;simp only[aZ,jl,sy,L7,a,a0,a1,a2,a3,EE,asBool,U,HB,W6];rfl
end Go.Ab.Nw
namespace Go.Ab.Nw
set_option maxRecDepth 100000
set_option linter.unusedVariables false
set_option linter.unusedSimpArgs false
theorem HC(x y:Int):(c3 x y<0↔x<y)∧(c3 x y=0↔x=y):=by unfold c3;split<;>(try split)<;>constructor<;>constructor<;>intro h<;>first|omega|(exfalso;omega)
theorem wb(i k:Nat)(s:Int)(b:Bool)(i' k':Nat)(s':Int)(b':Bool):R6 (L7 i k s b) (L7 i' k' s' b')<0↔i<i'∨(i=i'∧(k<k'∨(k=k'∧s<s'))):=by
 show W5 (c3 (i:Int) (i':Int)) (c3 (k:Int) (k':Int)) (c3 s s')<0↔_;have h1:=HC (i:Int) (i':Int);have h2:=HC (k:Int) (k':Int);have h3:=HC s s';unfold W5;split
 ·constructor<;>intro h<;>omega
 ·split
  ·constructor<;>intro h<;>omega
  ·constructor<;>intro h<;>omega
def IsF(e:List PV):Prop:=∃i k s b,e=L7 i k s b
variable{ns:List (List PV)}
theorem HD(h:ns.Pairwise fun a b=>R6 a b<0):∀a∈ns,∀b∈ns,¬R6 a b<0→¬R6 b a<0→a=b:=by
 induction h with
 |nil=>intro a ha;cases ha
 | @cons x l hx _ ih=>
  intro a ha b hb h1 h2;rcases List.mem_cons.1 ha with ea|Rs
  ·rcases List.mem_cons.1 hb with eb|fl
   ·rw[ea,eb]
   ·rw[ea]at h1;exact absurd (hx b fl) h1
  ·rcases List.mem_cons.1 hb with eb|fl
   ·rw[eb]at h2;exact absurd (hx a Rs) h2
   ·exact ih a Rs b fl h1 h2
theorem EN(hF:∀e∈ns,IsF e)(h:ns.Pairwise fun a b=>R6 a b<0):ir 4 (fun c a b=>aZ [a,b]) ns ns R6 where
 len a ha:=by obtain⟨i,k,s,b,rfl⟩:=hF a ha;rfl
 MN a ha p hp:=by obtain⟨i,k,s,b,rfl⟩:=hF a ha;simp only[L7,List.mem_cons,List.not_mem_nil,or_false]at hp;rcases hp with rfl|rfl|rfl|rfl<;>rfl
 perm:=List.Perm.refl _
 reads c _ _ a ha b hb:=by obtain⟨i,k,s,q,rfl⟩:=hF a ha;obtain⟨i',k',s',q',rfl⟩:=hF b hb;exact Oz ..
 irrefl a ha:=by obtain⟨i,k,s,q,rfl⟩:=hF a ha;rw[wb];omega
 trans a ha b hb c hc h1 h2:=by obtain⟨i,k,s,q,rfl⟩:=hF a ha;obtain⟨i',k',s',q',rfl⟩:=hF b hb;obtain⟨i2,k2,s2,q2,rfl⟩:=hF c hc;rw[wb]at*;omega
 total:=HD h
 sorted:=h.imp_of_mem fun{a b}ha hb oH=>by obtain⟨i,k,s,q,rfl⟩:=hF a ha;obtain⟨i',k',s',q',rfl⟩:=hF b hb;rw[wb]at*;omega
def U0(w f:Int)(i k:Nat):List (List PV):=if i=k∨w>14400 then[]else L7 i k w (f==w)::(if f>w∧f≤14400 then[L7 i k f true]else[])
theorem QT(w f:Int)(i k:Nat):(U0 w f i k).map sy=QF w f i k:=by
 unfold U0 QF;split
 ·rfl
 ·split<;>rfl
def CN(n:Nat)(W F:Nat→Nat→Int):List (List PV):=(List.range n).flatMap fun i=>(List.range n).flatMap fun k=>U0 (W i k) (F i k) i k
theorem BB(n:Nat)(W F:Nat→Nat→Int):ez (CN n W F)=xE n (fun i k=>QF (W i k) (F i k) i k) n:=by unfold ez CN xE wa;rw[List.map_flatMap];congr 1;funext i;rw[List.map_flatMap];congr 1;funext k;exact QT ..
theorem uM{w f:Int}{i k:Nat}{e:List PV}(h:e∈U0 w f i k):∃s b,e=L7 i k s b:=by
 unfold U0 at h;split at h
 ·cases h
 ·rcases List.mem_cons.1 h with rfl|h
  ·exact⟨_,_,rfl⟩
  ·split at h
   ·simp at h;subst h;exact⟨_,_,rfl⟩
   ·cases h
theorem Ep(n:Nat)(W F:Nat→Nat→Int):∀e∈CN n W F,IsF e:=fun e h=>by obtain⟨i,_,h⟩:=List.mem_flatMap.1 h;obtain⟨k,_,h⟩:=List.mem_flatMap.1 h;obtain⟨s,b,rfl⟩:=uM h;exact⟨i,k,s,b,rfl⟩
theorem EO(n:Nat)(W F:Nat→Nat→Int):(CN n W F).Pairwise fun a b=>R6 a b<0:=by
 unfold CN;rw[List.pairwise_flatMap];refine⟨fun i _=>?_,List.pairwise_lt_range.imp fun{i i'}Fs x hx y hy=>?_⟩
 ·rw[List.pairwise_flatMap];refine⟨fun k _=>?_,List.pairwise_lt_range.imp fun{k k'}vz x hx y hy=>?_⟩
  ·unfold U0;split
   ·exact .nil
   ·split
    ·rename_i h;refine List.pairwise_cons.2 ⟨fun y hy=>?_,List.pairwise_singleton ..⟩;simp at hy;subst hy;rw[wb];omega
    ·exact List.pairwise_singleton ..
  ·obtain⟨s,b,rfl⟩:=uM hx;obtain⟨s',b',rfl⟩:=uM hy;rw[wb];omega
 ·obtain⟨k,_,hx⟩:=List.mem_flatMap.1 hx;obtain⟨k',_,hy⟩:=List.mem_flatMap.1 hy;obtain⟨s,b,rfl⟩:=uM hx;obtain⟨s',b',rfl⟩:=uM hy;rw[wb];omega
theorem Hg(l:List Fp)(n:Nat)(hn:n≤64)(hl:l.length≤4096)(h:∀p∈l,p.a<n∧p.b<n∧1≤p.c∧p.c≤14400):cE [.rs 4 (l.map Fp.pv),.int .i64 n]=some (.rs 4 (ez (CN n (sA n l false) (sA n l true)))):=by
 have hB:(14400:Nat)≤1073741824:=by omega
 obtain⟨D0,d0,e0⟩:=JM l n 14400 hn hl hB (fun p hp=>⟨(h p hp).1,(h p hp).2.1,(h p hp).2.2.2⟩) false;obtain⟨D1,d1,e1⟩:=JM l n 14400 hn hl hB (fun p hp=>⟨(h p hp).1,(h p hp).2.1,(h p hp).2.2.2⟩) true;have hM:14400*n<Hz:=by show 14400*n<1099511627776;omega
 have Ge:xE n (fun i k=>Fy (D0 i k) (D1 i k) i k) n=ez (CN n (sA n l false) (sA n l true)):=by
  rw[BB];unfold xE wa;rw[List.flatMap_def,List.flatMap_def];congr 1;apply List.map_congr_left;intro i hi;rw[List.flatMap_def,List.flatMap_def];congr 1;apply List.map_congr_left;intro k hk;have hi:=List.mem_range.1 hi;have hk:=List.mem_range.1 hk;dsimp only;by_cases zR:i=k
  ·rw[show Fy (D0 i k) (D1 i k) i k=[]from if_pos zR,show QF (sA n l false i k) (sA n l true i k) i k=[]from if_pos (.inl zR)]
  ·exact W3 hM (JN hn hB h false hi hk zR (d0 i k hi hk)) (JN hn hB h true hi hk zR (d1 i k hi hk)) (QS (d0 i k hi hk) (d1 i k hi hk)) i k
 have a0:ae 4 (.rs 4 (l.map Fp.pv))=some (l.map Fp.pv):=by simp[ae]
 have a1:∀es,ae 1 (.rs 1 es)=some es:=fun es=>by simp[ae]
 have hlen:((iR n D0).length:Int)=(n:Int):=by simp[iR]
 simp only[cE,kM,a0,EE,U,e0,e1,a1,hlen];exact HA n D0 D1 hn (by rw[Ge];exact K1 (EN (Ep _ _ _) (EO _ _ _)))
end Go.Ab.Nw
