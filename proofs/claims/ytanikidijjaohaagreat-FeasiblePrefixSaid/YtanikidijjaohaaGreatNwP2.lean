import Derived.Test.YtanikidijjaohaaGreatNwP1
namespace Go.Ab.Nw
set_option maxRecDepth 100000
set_option linter.unusedVariables false
set_option linter.unusedSimpArgs false
def O3(E:List Ed)(M:Nat)(s v:Nat)(d:Int):Prop:=(d= -1∧∀L,¬Ir E s v L)∨∃L:Nat,d=L∧L≤M∧Ir E s v L∧∀L',Ir E s v L'→L≤L'
theorem O3.unique{E:List Ed}{M M' s v:Nat}{d d':Int}(h:O3 E M s v d)(h':O3 E M' s v d'):d=d':=by
 rcases h with⟨e,h⟩|⟨L,e,_,h1,h2⟩
 ·rcases h' with⟨e',_⟩|⟨L',_,_,P8,_⟩
  ·rw[e,e']
  ·exact absurd P8 (h L')
 ·rcases h' with⟨_,h'⟩|⟨L',e',_,P8,LM⟩
  ·exact absurd h1 (h' L)
  ·rw[e,e',Nat.le_antisymm (h2 _ P8) (LM _ h1)]
theorem Ir.mem{E E':List Ed}(h:∀y,y∈E→y∈E'){s v L:Nat}(hr:Ir E s v L):Ir E' s v L:=by
 rcases hr with hr|hr
 ·exact .inl hr
 ·exact .inr (hr.mono fun i j c hc=>h _ hc)
theorem O3.mem{E E':List Ed}(h:∀y,y∈E↔y∈E'){M s v:Nat}{d:Int}(hd:O3 E M s v d):O3 E' M s v d:=by
 rcases hd with⟨e,h1⟩|⟨L,e,hM,h1,h2⟩
 ·exact .inl ⟨e,fun L hL=>h1 L (hL.mem fun y hy=>(h y).2 hy)⟩
 ·exact .inr ⟨L,e,hM,h1.mem fun y hy=>(h y).1 hy,fun L' hL=>h2 L' (hL.mem fun y hy=>(h y).2 hy)⟩
def tI(n:Nat)(D:Nat→Int):List PV:=(List.range n).map fun v=>.int .i64 (D v)
def eZ(n:Nat)(D:Nat→Nat→Int):List PV:=(List.range n).map fun s=>.rs 1 (tI n (D s))
variable{D:Nat→Nat→Int}
theorem KQ{n:Nat}{D':Nat→Nat→Int}(h:∀s v,s<n→v<n→D s v=D' s v):eZ n D=eZ n D':=by unfold eZ;apply List.map_congr_left;intro s hs;unfold tI;congr 1;apply List.map_congr_left;intro v hv;rw[h s v (List.mem_range.1 hs) (List.mem_range.1 hv)]
theorem V9(E:List Ed)(n B:Nat)(hn:n≤64)(hE:E.length≤4096)(hB:B≤1073741824)(h:∀y∈E,y.f<n∧y.t<n∧y.c≤B):∃D:Nat→Nat→Int,(∀s v,s<n→v<n→O3 E (B*n) s v (D s v))∧fU [.int .i64 n,.rs 3 (E.map Ed.pv)]=some (.bt [.rs 1 (eZ n D),.int .i64 0]):=by
 have h':∀y∈E,y.f<n∧y.t<n∧y.c≤1073741824:=fun y hy=>⟨(h y hy).1,(h y hy).2.1,by have:=(h y hy).2.2;omega⟩;have hG:=V8 E n hn hE h';have each:∀s,∃o:nT,s<n→(∃pu,DI E n s B o pu [])∧eY [.int .i64 n,.rm 3 ((G5 (xm E)).map fun x=>x.1) ((G5 (xm E)).map fun x=>x.2.np),.int .i64 s]=some (.rs 3 (dJ n o)):=fun s=>by
  by_cases hs:s<n
  ·obtain⟨o,pu,h1,h2⟩:=SZ hG hs hB (fun y hy=>(h y hy).2.2) hn;exact⟨o,fun _=>⟨⟨pu,h1⟩,h2⟩⟩
  ·exact⟨fun _=>none,fun h=>absurd h hs⟩
 obtain⟨o,ho⟩:=Classical.axiomOfChoice each;refine⟨fun s v=>It (o s v),fun s v hs hv=>?_,?_⟩
 ·obtain⟨⟨pu,hI⟩,_⟩:=ho s hs;have:=hI.done h hv;cases hl:o s v with
  |none=>rw[hl]at this;exact .inl ⟨by dsimp only;rw[hl];rfl,this⟩
  |some p=>obtain⟨L,e⟩:=p;rw[hl]at this;exact .inr ⟨L,by dsimp only;rw[hl];rfl,this.1,this.2.1,this.2.2⟩
 ·have e0:aa 3 (.rs 3 (E.map Ed.pv))=some (E.map Ed.pv):=by simp[aa]
  have gu:(0:Int)≤(n:Int)∧(n:Int)≤(n:Int)∧n*24≤an∧0<24∧0<1:=by refine⟨by omega,by omega,?_,by omega,by omega⟩;unfold an;omega
  have hz:((0:Int) !=0)=false:=rfl;simp only[fU,uz,Fg,e0,U,V6 E n hn hE h',hz,Bool.false_eq_true,if_false,Iw E hE,dP,if_true,Int.toNat_natCast,if_pos gu,List.length_replicate];refine bT (fun k=>((n:Int),PV.rm 3 ((G5 (xm E)).map fun x=>x.1) ((G5 (xm E)).map fun x=>x.2.np),(n:Int),(k:Int),sc n k (fun s=>.rs 1 (tI n fun v=>It (o s v))) (.rs 0 []),())) n (fun k hk rec=>?_) (fun rec=>?_) (by unfold rounds;omega) ?_
  ·unfold lA;dsimp only;have hg:decide ((k:Int)<(n:Int))=true:=by simp;omega
   have e3:aa 3 (.rs 3 (dJ n (o k)))=some (dJ n (o k)):=by simp[aa]
   have e1:aa 1 (.rs 1 ((List.range n).map fun v=>PV.int .i64 (It (o k v))))=some ((List.range n).map fun v=>PV.int .i64 (It (o k v))):=by simp[aa]
   rw[if_pos hg,(ho k hk).2,U,e3,U,O2 n hn,U,e1,U,if_pos (CR (by rw[KM];exact hk)),Int.toNat_natCast,KN hk,U,ai (by omega)];have:=KO (F:=fun s=>PV.rs 1 (tI n fun v=>It (o s v))) (z:=.rs 0 []) hk;unfold tI at this⊢;rw[this]
  ·unfold lA;dsimp only;rw[if_neg (by simp),KP];rfl
  ·rw[G4];rfl
theorem Wa(E E':List Ed)(n B:Nat)(hn:n≤64)(hE:E'.length≤4096)(hB:B≤1073741824)(h:∀y∈E,y.f<n∧y.t<n∧y.c≤B)(he:∀y,y∈E↔y∈E')(hD:∀s v,s<n→v<n→O3 E (B*n) s v (D s v)):fU [.int .i64 n,.rs 3 (E'.map Ed.pv)]=some (.bt [.rs 1 (eZ n D),.int .i64 0]):=by obtain⟨D',d1,d2⟩:=V9 E' n B hn hE hB fun y hy=>h y ((he y).2 hy);rw[d2,KQ fun s v hs hv=>((hD s v hs hv).mem he).unique (d1 s v hs hv)]
end Go.Ab.Nw
namespace Go.Ab.Nw
set_option maxRecDepth 100000
set_option linter.unusedVariables false
set_option linter.unusedSimpArgs false
structure Fp where
 a:Nat
 b:Nat
 c:Nat
 free:Bool
 deriving DecidableEq
def Fp.pv(p:Fp):PV:=.agg [.int .i64 p.a,.int .i64 p.b,.int .i64 p.c,.bool p.free]
theorem fp0(p:Fp):cell p.pv 0=.int .i64 p.a:=rfl
theorem fp1(p:Fp):cell p.pv 1=.int .i64 p.b:=rfl
theorem fp2(p:Fp):cell p.pv 2=.int .i64 p.c:=rfl
theorem fp3(p:Fp):cell p.pv 3=.bool p.free:=rfl
def Fp.ed(p:Fp):Ed:=⟨p.a,p.b,p.c⟩
def yW(z:Ed):List Ed→List Ed
 |[]=>[z]
 |e::r=>if z.f=e.f∧z.t=e.t then z::r else e::yW z r
def zY(a b:Nat):List Ed→Option Nat
 |[]=>none
 |e::r=>if a=e.f∧b=e.t then some e.c else zY a b r
theorem E1(a b:Nat)(z:Ed):∀m,zY a b (yW z m)=if a=z.f∧b=z.t then some z.c else zY a b m
 |[]=>rfl
 |e::r=>by
  simp only[yW];by_cases h:z.f=e.f∧z.t=e.t
  ·rw[if_pos h];simp only[zY];by_cases h2:a=z.f∧b=z.t
   ·rw[if_pos h2,if_pos h2]
   ·rw[if_neg h2,if_neg h2,if_neg (by rw[←h.1,←h.2];exact h2)]
  ·rw[if_neg h];simp only[zY];by_cases h2:a=e.f∧b=e.t
   ·rw[if_pos h2,if_neg (by rw[h2.1,h2.2];rintro⟨x,y⟩;exact h ⟨x.symm,y.symm⟩),if_pos h2]
   ·rw[if_neg h2,if_neg h2];exact E1 a b z r
theorem KS(z e:Ed):∀m,e∈yW z m→e=z∨e∈m
 |[],h=>by simp[yW]at h;exact .inl h
 |x::r,h=>by
  simp only[yW]at h;split at h
  ·rcases List.mem_cons.1 h with h|h
   ·exact .inl h
   ·exact .inr (by simp[h])
  ·rcases List.mem_cons.1 h with h|h
   ·exact .inr (by simp[h])
   ·rcases KS z e r h with h|h
    ·exact .inl h
    ·exact .inr (by simp[h])
theorem KT{a b x:Nat}:∀{m:List Ed},zY a b m=some x→∃e∈m,e.f=a∧e.t=b∧e.c=x
 |[],h=>by cases h
 |e::r,h=>by
  simp only[zY]at h;split at h
  ·rename_i h2;cases h;exact⟨e,by simp,h2.1.symm,h2.2.symm,rfl⟩
  ·obtain⟨e',h1,h2⟩:=KT h;exact⟨e',by simp[h1],h2⟩
theorem KU(z:Ed):∀m,(yW z m).length≤m.length+1
 |[]=>by simp[yW]
 |e::r=>by
  simp only[yW];split
  ·simp
  ·have:=KU z r;simp;omega
def Q8(fr:Bool)(m:List Ed)(p:Fp):List Ed:=if(fr&& !p.free)=true then m else match zY p.a p.b m with
 |none=>yW p.ed m
 |some x=>if p.c<x then yW p.ed m else m
def lP(fr:Bool)(l:List Fp):List Ed:=l.foldl (Q8 fr) []
theorem G9(fr:Bool)(l:List Fp)(p:Fp):lP fr (l++[p])=Q8 fr (lP fr l) p:=by simp[lP]
def counted(fr:Bool)(l:List Fp):List Ed:=(l.filter fun p=> !(fr&& !p.free)).map Fp.ed
theorem Q9(fr:Bool)(l:List Fp):(∀e∈lP fr l,e∈counted fr l)∧(∀e∈counted fr l,∃x,zY e.f e.t (lP fr l)=some x∧x≤e.c)∧(lP fr l).length≤l.length:=by
 rw[←List.reverse_reverse l];induction l.reverse with
 |nil=>exact⟨(fun e h=>by simp[lP]at h),(fun e h=>by simp[counted]at h),Nat.le_refl _⟩
 |cons p l ih=>
  rw[List.reverse_cons,G9];obtain⟨i1,i2,i3⟩:=ih;have hc:counted fr (l.reverse++[p])=counted fr l.reverse++(if(fr&& !p.free)=true then[]else[p.ed]):=by
   unfold counted;rw[List.filter_append,List.map_append];congr 1;cases hb:(fr&& !p.free)with
   |true=>simp only[List.filter_cons,hb,Bool.not_true,Bool.false_eq_true,if_false,List.filter_nil,List.map_nil,if_true]
   |false=>simp only[List.filter_cons,hb,Bool.not_false,Bool.false_eq_true,if_false,List.filter_nil,List.map_nil,List.map_cons,if_true]
  rw[hc];unfold Q8;by_cases h:(fr&& !p.free)=true
  ·rw[if_pos h,if_pos h];exact⟨fun e he=>by simpa using i1 e he,fun e he=>i2 e (by simpa using he),by simp at i3⊢;omega⟩
  ·rw[if_neg h,if_neg h];have put:(∀e∈yW p.ed (lP fr l.reverse),e∈counted fr l.reverse++[p.ed]):=fun e he=>by
    rcases KS _ _ _ he with rfl|he
    ·simp
    ·exact List.mem_append_left _ (i1 e he)
   have len:(yW p.ed (lP fr l.reverse)).length≤(l.reverse++[p]).length:=by have:=KU p.ed (lP fr l.reverse);simp at i3⊢;omega
   cases hb:zY p.a p.b (lP fr l.reverse)with
   |none=>
    refine⟨put,fun e he=>?_,len⟩;rw[E1];by_cases hk:e.f=p.ed.f∧e.t=p.ed.t
    ·rw[if_pos hk];rcases List.mem_append.1 he with he|he
     ·obtain⟨x,h1,_⟩:=i2 e he;rw[hk.1,hk.2]at h1;rw[show p.ed.f=p.a from rfl,show p.ed.t=p.b from rfl,hb]at h1;cases h1
     ·simp at he;subst he;exact⟨_,rfl,Nat.le_refl _⟩
    ·rw[if_neg hk];rcases List.mem_append.1 he with he|he
     ·exact i2 e he
     ·simp at he;subst he;exact absurd ⟨rfl,rfl⟩ hk
   |some x=>
    dsimp only;by_cases hx:p.c<x
    ·rw[if_pos hx];refine⟨put,fun e he=>?_,len⟩;rw[E1];by_cases hk:e.f=p.ed.f∧e.t=p.ed.t
     ·rw[if_pos hk];rcases List.mem_append.1 he with he|he
      ·obtain⟨y,h1,h2⟩:=i2 e he;rw[hk.1,hk.2,show p.ed.f=p.a from rfl,show p.ed.t=p.b from rfl,hb]at h1;cases h1;exact⟨_,rfl,by show p.c≤e.c;omega⟩
      ·simp at he;subst he;exact⟨_,rfl,Nat.le_refl _⟩
     ·rw[if_neg hk];rcases List.mem_append.1 he with he|he
      ·exact i2 e he
      ·simp at he;subst he;exact absurd ⟨rfl,rfl⟩ hk
    ·rw[if_neg hx];refine⟨fun e he=>List.mem_append_left _ (i1 e he),fun e he=>?_,by simp at i3⊢;omega⟩;rcases List.mem_append.1 he with he|he
     ·exact i2 e he
     ·simp at he;subst he;exact⟨x,hb,by show x≤p.c;omega⟩
def mY(e:Ed):PV×PV:=(.agg [.int .i64 e.f,.int .i64 e.t,.bool false],.int .i64 e.c)
theorem acB(a b c d:Nat):dK (PV.agg [.int .i64 a,.int .i64 b,.bool false]).cells (PV.agg [.int .i64 c,.int .i64 d,.bool false]).cells=decide (a=c∧b=d):=by
 have h:∀x y:Nat,((x:Int)==(y:Int))=decide (x=y):=fun x y=>by
  by_cases h:x=y
  ·simp[h]
  ·rw[decide_eq_false h,beq_eq_false_iff_ne];omega
 simp only[PV.cells,dK,peq,Bool.and_true,h,beq_self_eq_true,Bool.decide_and]
theorem ZJ(a b:Nat):∀m:List Ed,dH (.agg [.int .i64 a,.int .i64 b,.bool false]) (.int .i64 0) (m.map mY)=.int .i64 (((zY a b m).getD 0:Nat):Int)∧vf (.agg [.int .i64 a,.int .i64 b,.bool false]) (m.map mY)=(zY a b m).isSome
 |[]=>⟨rfl,rfl⟩
 |e::r=>by
  obtain⟨h1,h2⟩:=ZJ a b r;simp only[List.map_cons,mY,dH,vf,acB,zY];by_cases h:a=e.f∧b=e.t
  ·simp[h]
  ·simp only[h,decide_false,Bool.false_eq_true,if_false,Bool.false_or];exact⟨h1,h2⟩
theorem aa3(z:Ed):∀m:List Ed,eS (.agg [.int .i64 z.f,.int .i64 z.t,.bool false]) (.int .i64 z.c) (m.map mY)=(yW z m).map mY
 |[]=>rfl
 |e::r=>by
  have ih:=aa3 z r;simp only[List.map_cons,eS,yW];rw[show(mY e)=(PV.agg [.int .i64 e.f,.int .i64 e.t,.bool false],PV.int .i64 e.c)from rfl];simp only[acB];by_cases h:z.f=e.f∧z.t=e.t
  ·simp[h,mY]
  ·simp only[h,decide_false,Bool.false_eq_true,if_false,List.map_cons,ih];rfl
theorem DE{R:Type}{n:Nat}{g:Nat→Option R}{r:R}(hn:0<n)(h:∀i,i<n→g i=some r):rT n g=some r:=by unfold rT;have hh:∃r,∀i,i<n→g i=some r:=⟨r,h⟩;rw[dif_pos hh];have:=Classical.choose_spec hh 0 hn;rw[h 0 hn]at this;exact this.symm
theorem S1{n:Nat}(hn:n≤64)(r:PV)(acC:List Ed→Prop)(nv:∀acc,acC acc→∃D,fU [.int .i64 n,.rs 3 (acc.map Ed.pv)]=some (.bt [.rs 1 D,.int .i64 0])∧r=.rs 1 D):∀(rem acc:List Ed)(N:Nat),rem.length<N→acc.length+rem.length≤4096→(∀l,(∀y,y∈l↔y∈acc∨y∈rem)→l.length=acc.length+rem.length→acC l)→c7 (eo bC) N ((n:Int),acc.map Ed.pv,rem.map mY,())=some r:=by
 intro rem;generalize hk:rem.length=k;induction k generalizing rem with
 |zero=>
  intro acc N hN hl hg;have:rem=[]:=List.eq_nil_of_length_eq_zero hk;subst this;obtain⟨N,rfl⟩:∃m,N=m+1:=⟨N-1,by omega⟩;simp only[c7];unfold eo;dsimp only;rw[if_pos (show(List.map mY []).isEmpty=true from rfl)];obtain⟨D,h1,h2⟩:=nv acc (hg acc (fun y=>by simp) (by simp));have e2:cP 2 (.bt [.rs 1 D,.int .i64 0])=some [.rs 1 D,.int .i64 0]:=rfl;have e3:aa 1 (.rs 1 D)=some D:=by simp[aa]
  rw[h1,U,e2,U];simp only[List.getD_cons_zero,List.getD_cons_succ,e3,U,Fg];rw[h2]
 |succ k ih=>
  intro acc N hN hl hg;obtain⟨N,rfl⟩:∃m,N=m+1:=⟨N-1,by omega⟩;simp only[c7];generalize fM:c7 (eo bC) N=rec;unfold eo;dsimp only
  have cB:¬(rem.map mY).isEmpty=true:=by cases rem with
   |nil=>simp at hk
   |cons _ _=>simp
  rw[if_neg cB];refine DE (by simp;omega) fun i hi=>?_;have ny:i<rem.length:=by simpa using hi
  obtain⟨e,he⟩:∃e,rem[i]?=some e:=⟨_,List.getElem?_eq_getElem ny⟩;have Fo:(rem.map mY)[i]?=some (mY e):=by rw[List.getElem?_map,he];rfl
  have gu:(acc.map Ed.pv++[PV.agg [.int .i64 e.f,.int .i64 e.t,.int .i64 e.c]]).length*24≤an∧0<24:=by simp only[List.length_append,List.length_map,List.length_cons,List.length_nil];unfold an;omega
  have Dt:acc.map Ed.pv++[PV.agg [.int .i64 e.f,.int .i64 e.t,.int .i64 e.c]]=(acc++[e]).map Ed.pv:=by simp[Ed.pv]
  have aa4:(rem.map mY).eraseIdx i=(rem.eraseIdx i).map mY:=by apply List.ext_getElem?;intro j;simp only[List.getElem?_eraseIdx,List.getElem?_map];split<;>rfl
  have hle:(rem.eraseIdx i).length=k:=by rw[List.length_eraseIdx];simp[ny];omega
  rw[Fo,U];rw[Dt]at gu;simp only[mY,ag3,acv,aa1,Fg,U,Dt,if_pos gu,aa4];rw[←fM];refine ih (rem.eraseIdx i) hle (acc++[e]) N (by omega) (by simp;omega) fun l hml CH=>hg l (fun y=>?_) (by rw[CH];simp;omega);rw[hml];have bJ:y∈rem↔y=e∨y∈rem.eraseIdx i:=by
   rw[List.mem_eraseIdx_iff_getElem?];constructor
   ·intro hy;obtain⟨j,hj⟩:=List.getElem?_of_mem hy;by_cases Mr:j=i
    ·subst Mr;rw[he]at hj;exact .inl (Option.some.inj hj).symm
    ·exact .inr ⟨j,Mr,hj⟩
   ·rintro(rfl|⟨j,_,hj⟩)
    ·exact List.mem_of_getElem? he
    ·exact List.mem_of_getElem? hj
  rw[bJ];simp only[List.mem_append,List.mem_singleton];constructor
  ·rintro((h|h)|h)
   ·exact .inl h
   ·exact .inr (.inl h)
   ·exact .inr (.inr h)
  ·rintro(h|h|h)
   ·exact .inl (.inl h)
   ·exact .inl (.inr h)
   ·exact .inr h
end Go.Ab.Nw
namespace Go.Ab.Nw
set_option maxRecDepth 100000
set_option linter.unusedVariables false
set_option linter.unusedSimpArgs false
theorem Ir.leq{E E':List Ed}(h:∀e∈E,∃e'∈E',e'.f=e.f∧e'.t=e.t∧e'.c≤e.c){s v L:Nat}(hr:Ir E s v L):∃L',L'≤L∧Ir E' s v L':=by
 rcases hr with⟨h1,h2⟩|hr
 ·exact⟨L,Nat.le_refl _,.inl ⟨h1,h2⟩⟩
 ·obtain⟨L',l1,l2⟩:=hr.leq (w':=ew E') fun i j c hc=>by
   obtain⟨e',m,e1,e2,e3⟩:=h _ hc;refine⟨e'.c,e3,?_⟩;unfold ew;have:(⟨i,j,e'.c⟩:Ed)=e':=by have e1:e'.f=i:=e1;have e2:e'.t=j:=e2;rw[←e1,←e2]
   rw[this];exact m
  exact⟨L',l1,.inr l2⟩
theorem Wb{fr:Bool}{l:List Fp}{M s v:Nat}{d:Int}(h:O3 (lP fr l) M s v d):O3 (counted fr l) M s v d:=by
 obtain⟨b1,b2,_⟩:=Q9 fr l;have low:∀{L},Ir (counted fr l) s v L→∃L',L'≤L∧Ir (lP fr l) s v L':=fun hr=>hr.leq fun e he=>by obtain⟨x,h1,h2⟩:=b2 e he;obtain⟨e',m,e1,e2,e3⟩:=KT h1;exact⟨e',m,e1,e2,by omega⟩
 rcases h with⟨e,h1⟩|⟨L,e,hM,h1,h2⟩
 ·refine .inl ⟨e,fun L hL=>?_⟩;obtain⟨L',_,hL'⟩:=low hL;exact h1 L' hL'
 ·refine .inr ⟨L,e,hM,h1.mem b1,fun L' hL=>?_⟩;obtain⟨L'',l1,l2⟩:=low hL;exact Nat.le_trans (h2 L'' l2) l1
theorem wF{fr:Bool}{l:List Fp}{e:Ed}(h:e∈counted fr l):∃p∈l,p.ed=e:=by unfold counted at h;obtain⟨p,hp,rfl⟩:=List.mem_map.1 h;exact⟨p,(List.mem_filter.1 hp).1,rfl⟩
theorem Ra(l:List Fp)(n B:Nat)(hn:n≤64)(hl:l.length≤4096)(hB:B≤1073741824)(h:∀p∈l,p.a<n∧p.b<n∧p.c≤B)(fr:Bool):∃D:Nat→Nat→Int,(∀s v,s<n→v<n→O3 (counted fr l) (B*n) s v (D s v))∧dG [.rs 4 (l.map Fp.pv),.int .i64 n,.bool fr]=some (.rs 1 (eZ n D)):=by
 obtain⟨b1,b2,b3⟩:=Q9 fr l;have hbe:∀y∈lP fr l,y.f<n∧y.t<n∧y.c≤B:=fun y hy=>by obtain⟨p,hp,rfl⟩:=wF (b1 y hy);exact h p hp
 obtain⟨D,d1,d2⟩:=V9 (lP fr l) n B hn (by omega) hB hbe;refine⟨D,fun s v hs hv=>Wb (d1 s v hs hv),?_⟩;have e0:aa 4 (.rs 4 (l.map Fp.pv))=some (l.map Fp.pv):=by simp[aa]
 simp only[dG,lI,e0,U,Fg,asBool];refine bT (fun k=>((n:Int),fr,l.map Fp.pv,((l.map Fp.pv).length:Int),(k:Int),(lP fr (l.take k)).map mY,())) l.length (fun k hk rec=>?_) (fun rec=>?_) (by unfold rounds;omega) (by simp[lP])
 ·unfold jz;dsimp only;have hg:decide ((k:Int)<((l.map Fp.pv).length:Int))=true:=by simp;omega
  obtain⟨p,hp⟩:∃p,l[k]?=some p:=⟨_,List.getElem?_eq_getElem hk⟩;have Fo:(l.map Fp.pv)[k]?=some p.pv:=by rw[List.getElem?_map,hp];rfl
  have htk:l.take (k+1)=l.take k++[p]:=by rw[List.take_add_one,hp];rfl
  have hr7:(bif fr then(asBool (cell p.pv 3)).bind fun b6=>some !b6 else some false)=some (fr&& !p.free):=by rw[fp3];cases fr<;>rfl
  obtain⟨g1,g2⟩:=ZJ p.a p.b (lP fr (l.take k));rw[if_pos hg,aQ,Fo,U,hr7,U,ai (by omega),htk,G9];unfold Q8;by_cases hf:(fr&& !p.free)=true
  ·rw[if_pos hf,if_pos hf]
  ·rw[if_neg hf,if_neg hf];simp only[fp0,fp1,fp2,Fg,U,g1,g2];cases hb:zY p.a p.b (lP fr (l.take k))with
   |none=>simp only[Option.isSome_none,Bool.not_false,cond_true,U,if_true];rw[show(p.c:Int)=((p.ed.c:Nat):Int)from rfl,show(p.a:Int)=((p.ed.f:Nat):Int)from rfl,show(p.b:Int)=((p.ed.t:Nat):Int)from rfl,aa3]
   |some x=>
    simp only[Option.isSome_some,Bool.not_true,cond_false,U,Option.getD_some];by_cases hx:p.c<x
    ·have hd:decide ((p.c:Int)<(x:Int))=true:=by simp;omega
     simp only[hd,if_true,if_pos hx];rw[show(p.c:Int)=((p.ed.c:Nat):Int)from rfl,show(p.a:Int)=((p.ed.f:Nat):Int)from rfl,show(p.b:Int)=((p.ed.t:Nat):Int)from rfl,aa3]
    ·have hd:decide ((p.c:Int)<(x:Int))=false:=by simp;omega
     simp only[hd,Bool.false_eq_true,if_false,if_neg hx]
 ·unfold jz;dsimp only;have hml:((lP fr (l.take l.length)).map mY).length≤maxLen:=by
   rw[List.take_length,List.length_map];have:(4096:Nat)≤maxLen:=by decide
   omega
  have gu:(0:Int)≤0∧0≤((((lP fr (l.take l.length)).map mY).length:Nat):Int)∧((((lP fr (l.take l.length)).map mY).length:Nat):Int).toNat*24≤an∧0<24∧0<3:=by refine⟨by omega,by omega,?_,by omega,by omega⟩;rw[Int.toNat_natCast,List.take_length,List.length_map];unfold an;omega
  rw[if_neg (by simp),if_pos hml,if_pos gu,List.take_length,mf];have hp:=S1 hn (.rs 1 (eZ n D)) (fun acc=>(∀y,y∈lP fr l↔y∈acc)∧acc.length≤4096) (fun acc⟨h1,h2⟩=>⟨_,Wa (lP fr l) acc n B hn h2 hB hbe h1 d1,rfl⟩) (lP fr l) [] rounds (by unfold rounds;omega) (by simp;omega) (fun l' h1 h2=>⟨fun y=>by rw[h1];simp,by rw[h2];simp;omega⟩);exact hp
end Go.Ab.Nw
namespace Go.Ab.Nw
abbrev Mx:=Nat→Nat→Nat
def Ix(d:Mx)(i j x:Nat):Mx:=fun a b=>if a=i∧b=j then x else d a b
def dj(k i:Nat)(d:Mx):Nat→Mx
 |0=>d
 |j+1=>Ix (dj k i d j) i j (min (dj k i d j i j) (dj k i d j i k+dj k i d j k j))
def di(n k:Nat)(d:Mx):Nat→Mx
 |0=>d
 |i+1=>dj k i (di n k d i) n
def dk(n:Nat)(d:Mx):Nat→Mx
 |0=>d
 |k+1=>di n k (dk n d k) n
structure S2(w:Nat→Nat→Nat→Prop)(inf n k i j:Nat)(d:Mx):Prop where
 fw:Fw w inf n d
 l5:∀a b,a<n→b<n→rC w k a b (d a b)
 new:∀a b,a<n→b<n→(a<i∨(a=i∧b<j))→rC w (k+1) a b (d a b)
variable {w:Nat→Nat→Nat→Prop} {inf n:Nat}
theorem rC.le{k i j x y:Nat}(h:rC w k i j x)(hy:y≤x):rC w k i j y:=fun L hL=>Nat.le_trans hy (h L hL)
theorem S2.cell{k i j:Nat}{d:Mx}(h:S2 w inf n k i j d)(hi:i<n)(hj:j<n)(hk:k<n):S2 w inf n k i (j+1) (Ix d i j (min (d i j) (d i k+d k j))):=by
 obtain⟨h1,h2,h3⟩:=Yj h.fw hi hj hk (x:=min (d i j) (d i k+d k j)) rfl (d':=Ix d i j (min (d i j) (d i k+d k j))) (fun a b=>rfl);refine⟨h1,fun a b ha hb=>(h.l5 a b ha hb).le (h2 a b),fun a b ha hb hd=>?_⟩;by_cases e:a=i∧b=j
 ·obtain⟨rfl,rfl⟩:=e;exact h3 (h.l5 _ _ ha hk) (h.l5 _ _ hk hb) (h.l5 _ _ ha hb)
 ·exact(h.new a b ha hb (by omega)).le (h2 a b)
theorem S2.row{k i:Nat}{d:Mx}(h:S2 w inf n k i 0 d)(hi:i<n)(hk:k<n):∀j,j≤n→S2 w inf n k i j (dj k i d j)
 |0,_=>h
 |j+1,hj=>(S2.row h hi hk j (by omega)).cell hi (by omega) hk
theorem S2.rows{k:Nat}{d:Mx}(h:S2 w inf n k 0 0 d)(hk:k<n):∀i,i≤n→S2 w inf n k i 0 (di n k d i)
 |0,_=>h
 |i+1,hi=>by have:=(S2.rows h hk i (by omega)).row (by omega) hk n (Nat.le_refl _);exact⟨this.fw,this.l5,fun a b ha hb hd=>this.new a b ha hb (by omega)⟩
structure A9(w:Nat→Nat→Nat→Prop)(inf n k:Nat)(d:Mx):Prop where
 fw:Fw w inf n d
 low:∀a b,a<n→b<n→rC w k a b (d a b)
theorem A9.rounds{d:Mx}(h:A9 w inf n 0 d):∀k,k≤n→A9 w inf n k (dk n d k)
 |0,_=>h
 |k+1,hk=>by have ih:=A9.rounds h k (by omega);have:=S2.rows (k:=k) ⟨ih.fw,ih.low,fun a b ha hb hd=>by omega⟩ (by omega) n (Nat.le_refl _);exact⟨this.fw,fun a b ha hb=>this.new a b ha hb (.inl ha)⟩
def Rb(inf:Nat):Mx:=fun _ _=>inf
def lay(d:Mx)(e:Ed):Mx:=Ix d e.f e.t (min (d e.f e.t) e.c)
def start(inf:Nat)(E:List Ed):Mx:=E.foldl lay (Rb inf)
theorem E2(inf:Nat)(E:List Ed)(e:Ed):start inf (E++[e])=lay (start inf E) e:=by simp[start]
theorem Wc(E:List Ed):(∀i j,start inf E i j≤inf)∧(∀i j,start inf E i j<inf→(⟨i,j,start inf E i j⟩:Ed)∈E)∧∀e∈E,start inf E e.f e.t≤e.c:=by
 rw[←List.reverse_reverse E];induction E.reverse with
 |nil=>exact⟨fun i j=>Nat.le_refl _,fun i j h=>by simp[start,Rb]at h,fun e h=>by cases h⟩
 |cons e l ih=>
  rw[List.reverse_cons,E2];obtain⟨i1,i2,i3⟩:=ih;have hl:∀a b,lay (start inf l.reverse) e a b=if a=e.f∧b=e.t then min (start inf l.reverse e.f e.t) e.c else start inf l.reverse a b:=fun a b=>rfl;refine⟨fun a b=>?_,fun a b h=>?_,fun z hz=>?_⟩
  ·rw[hl];split
   ·have:=i1 e.f e.t;omega
   ·exact i1 a b
  ·rw[hl]at h⊢;split
   ·rename_i hk;rw[if_pos hk]at h;by_cases hm:start inf l.reverse e.f e.t≤e.c
    ·rw[show min (start inf l.reverse e.f e.t) e.c=start inf l.reverse e.f e.t by omega]at h⊢;rw[hk.1,hk.2];exact List.mem_append_left _ (i2 _ _ h)
    ·rw[show min (start inf l.reverse e.f e.t) e.c=e.c by omega,hk.1,hk.2];simp
   ·rename_i hk;rw[if_neg hk]at h;exact List.mem_append_left _ (i2 a b h)
  ·rw[hl];rcases List.mem_append.1 hz with hz|hz
   ·have:=i3 z hz;split
    ·rename_i hk;rw[hk.1,hk.2]at this;omega
    ·exact this
   ·simp at hz;subst hz;rw[if_pos ⟨rfl,rfl⟩];omega
theorem E3(E:List Ed):A9 (ew E) inf n 0 (start inf E):=by obtain⟨h1,h2,h3⟩:=Wc (inf:=inf) E;exact⟨⟨fun i j _ _=>h1 i j,fun i j _ _ h=>.EZ (h2 i j h)⟩,fun a b _ _ L hL=>h3 ⟨a,b,L⟩ hL⟩
theorem Yq{E:List Ed}{M:Nat}(hE:∀y∈E,y.f<n∧y.t<n)(hM:M<inf){i j:Nat}(hi:i<n)(hj:j<n)(Hz:i≠j){D:Int}(hD:O3 E M i j D):(D= -1∧dk n (start inf E) n i j=inf)∨(D=(dk n (start inf E) n i j:Int)∧dk n (start inf E) n i j≤M):=by
 have hd:=(E3 (n:=n) (inf:=inf) E).rounds n (Nat.le_refl _);have rch:∀L,Ir E i j L↔kM (ew E) i j L:=fun L=>⟨fun h=>by rcases h with⟨h,_⟩|h;exact absurd h.symm Hz;exact h,.inr⟩;have hs:=Yk (w:=ew E) (fun a b c h=>(hE _ h).1) hd.fw hi hj (hd.low i j hi hj) (fun L RF hw=>by
  rcases hD with⟨_,h⟩|⟨L',_,hle,h1,h2⟩
  ·exact absurd ((rch L).2 hw) (h L)
  ·have:=RF L' ((rch L').1 h1);omega)
 rcases hD with⟨e,h⟩|⟨L',e,hle,h1,h2⟩
 ·left;refine⟨e,?_⟩;have agM:=hd.fw.top i j hi hj;by_cases bm:dk n (start inf E) n i j<inf
  ·exact absurd ((rch _).2 (hd.fw.real i j hi hj bm)) (h _)
  ·omega
 ·right;have:(if dk n (start inf E) n i j<inf then some (dk n (start inf E) n i j)else none)=some L':=hs.unique ⟨(rch L').1 h1,fun L'' hw=>h2 L'' ((rch L'').2 hw)⟩;split at this
  ·simp only[Option.some.injEq]at this;exact⟨by rw[e,this],by omega⟩
  ·cases this
end Go.Ab.Nw
namespace Go.Ab.Nw
set_option maxRecDepth 100000
set_option linter.unusedVariables false
set_option linter.unusedSimpArgs false
def zZ(n:Nat)(r:Nat→Nat):List PV:=(List.range n).map fun j=>.int .i64 (r j)
def pw(n:Nat)(d:Mx):List PV:=(List.range n).map fun i=>.pG 1 (zZ n (d i))
theorem tJ(n:Nat)(d:Mx):(pw n d).length=n:=by simp[pw]
theorem rE(n:Nat)(r:Nat→Nat):(zZ n r).length=n:=by simp[zZ]
theorem tK{n i:Nat}(d:Mx)(h:i<n):(pw n d)[i]?=some (.pG 1 (zZ n (d i))):=by simp[pw,h]
theorem tL{n j:Nat}(r:Nat→Nat)(h:j<n):(zZ n r)[j]?=some (.int .i64 (r j)):=by simp[zZ,h]
theorem KV{n i j:Nat}(d:Mx)(x:Nat)(hi:i<n)(hj:j<n):(pw n d).set i (.pG 1 ((zZ n (d i)).set j (.int .i64 x)))=pw n (Ix d i j x):=by
 apply List.ext_getElem?;intro a;rw[List.getElem?_set];by_cases e:i=a
 ·subst e;rw[if_pos rfl,if_pos (by rw[tJ];exact hi),tK _ hi];congr 2;apply List.ext_getElem?;intro b;rw[List.getElem?_set];by_cases e:j=b
  ·subst e;rw[if_pos rfl,if_pos (by rw[rE];exact hj),tL _ hj];simp[Ix]
  ·rw[if_neg e];by_cases hb:b<n
   ·rw[tL _ hb,tL _ hb];simp[Ix,Ne.symm e]
   ·rw[List.getElem?_eq_none (by rw[rE];omega),List.getElem?_eq_none (by rw[rE];omega)]
 ·rw[if_neg e];by_cases ha:a<n
  ·rw[tK _ ha,tK _ ha];congr 2;unfold zZ;apply List.map_congr_left;intro b _;simp[Ix,Ne.symm e]
  ·rw[List.getElem?_eq_none (by rw[tJ];omega),List.getElem?_eq_none (by rw[tJ];omega)]
theorem asR(es:List PV):eT 1 (cell (.pG 1 es) 0)=some es:=rfl
theorem cI(x:Int):cell (.int .i64 x) 0=.int .i64 x:=rfl
theorem acD(e p:PV):setRow 1 e 0 p=p:=rfl
theorem acE(q p:PV):setCells 1 q 0 1 p=p:=rfl
theorem Yr(a b:Nat)(hb:b≤4398046511104):(if IntKind.i64.wrap (b:Int)<(a:Int)then IntKind.i64.wrap (b:Int)else(a:Int))=((min a b:Nat):Int):=by rw[bF (by omega) (by omega)];split<;>omega
theorem aa5(rD:Int×Int×Int×List PV×Unit→Option PV)(n k i:Nat)(d:Mx)(hn:n≤64)(hk:k<n)(hi:i<n)(hd:∀j,j≤n→∀a b,a<n→b<n→dj k i d j a b≤1099511627776):bC.run (jK rD) ((n:Int),(k:Int),(i:Int),0,pw n d,())=rD ((n:Int),(k:Int),IntKind.i64.wrap ((i:Int)+1),pw n (dj k i d n),()):=by
 refine bT (fun j=>((n:Int),(k:Int),(i:Int),(j:Int),pw n (dj k i d j),())) n (fun j hj rec=>?_) (fun rec=>?_) (by unfold rounds;omega) rfl
 ·unfold jK;dsimp only;have hg:decide ((j:Int)<(n:Int))=true:=by simp;omega
  have ii:ah (i:Int) (pw n (dj k i d j)).length:=CR (by rw[tJ];exact hi);have ik:ah (k:Int) (pw n (dj k i d j)).length:=CR (by rw[tJ];exact hk);have ji:ah (j:Int) (zZ n (dj k i d j i)).length:=CR (by rw[rE];exact hj);have ki:ah (k:Int) (zZ n (dj k i d j i)).length:=CR (by rw[rE];exact hk);have jk:ah (j:Int) (zZ n (dj k i d j k)).length:=CR (by rw[rE];exact hj);have b1:=hd j (by omega) i k hi hk;have b2:=hd j (by omega) k j hk hj;have hs:(((dj k i d j i k:Nat):Int)+((dj k i d j k j:Nat):Int))=((dj k i d j i k+dj k i d j k j:Nat):Int):=by omega
  simp only[hg,if_true,if_pos ii,if_pos ik,Int.toNat_natCast,tK _ hi,tK _ hk,U,asR,if_pos ji,if_pos ki,if_pos jk,tL _ hj,tL _ hk,cI,Fg,acD,acE,hs,Yr _ _ (show dj k i d j i k+dj k i d j k j≤4398046511104 by omega),KV _ _ hi hj,ai (show j<9223372036854775807 by omega)];rfl
 ·unfold jK;dsimp only;rw[if_neg (by simp)]
theorem aa6(Ha:Int×Int×List PV×Unit→Option PV)(n k:Nat)(d:Mx)(hn:n≤64)(hk:k<n)(hd:∀i,i<n→∀j,j≤n→∀a b,a<n→b<n→dj k i (di n k d i) j a b≤1099511627776):bC.run (jL bC Ha) ((n:Int),(k:Int),0,pw n d,())=Ha ((n:Int),IntKind.i64.wrap ((k:Int)+1),pw n (di n k d n),()):=by
 refine bT (fun i=>((n:Int),(k:Int),(i:Int),pw n (di n k d i),())) n (fun i hi rec=>?_) (fun rec=>?_) (by unfold rounds;omega) rfl
 ·unfold jL;dsimp only;have hg:decide ((i:Int)<(n:Int))=true:=by simp;omega
  rw[if_pos hg,aa5 rec n k i _ hn hk hi (hd i hi),ai (by omega)];rfl
 ·unfold jL;dsimp only;rw[if_neg (by simp)]
theorem aa7(n:Nat)(d:Mx)(hn:n≤64)(hd:∀k,k<n→∀i,i<n→∀j,j≤n→∀a b,a<n→b<n→dj k i (di n k (dk n d k) i) j a b≤1099511627776):bC.run (jM bC) ((n:Int),0,pw n d,())=some (.rs 1 ((pw n (dk n d n)).map PV.strip)):=by
 refine bT (fun k=>((n:Int),(k:Int),pw n (dk n d k),())) n (fun k hk rec=>?_) (fun rec=>?_) (by unfold rounds;omega) rfl
 ·unfold jM;dsimp only;have hg:decide ((k:Int)<(n:Int))=true:=by simp;omega
  rw[if_pos hg,aa6 rec n k _ hn hk (hd k hk),ai (by omega)];rfl
 ·unfold jM;dsimp only;rw[if_neg (by simp)]
end Go.Ab.Nw
namespace Go.Ab.Nw
set_option maxRecDepth 100000
set_option linter.unusedVariables false
set_option linter.unusedSimpArgs false
abbrev Aa:Nat:=1099511627776
theorem S3(n:Nat):List.replicate n (PV.pG 1 (List.replicate n (PV.int .i64 1099511627776)))=pw n (Rb Aa):=by
 unfold pw zZ Rb;apply List.ext_getElem?;intro i;by_cases hi:i<n
 ·have:(List.range n).map (fun j=>PV.int .i64 ((Aa:Nat):Int))=List.replicate n (PV.int .i64 1099511627776):=by
   apply List.ext_getElem?;intro j;by_cases hj:j<n
   ·simp[hj,List.getElem?_replicate]
   ·rw[List.getElem?_eq_none (by simp;omega),List.getElem?_eq_none (by simp;omega)]
  simp only[List.getElem?_replicate,if_pos hi,List.getElem?_map,List.getElem?_range hi,Option.map_some];rw[←this]
 ·rw[List.getElem?_eq_none (by simp;omega),List.getElem?_eq_none (by simp;omega)]
theorem S4(n:Nat)(d:Mx):(pw n d).map PV.strip=eZ n fun i j=>((d i j:Nat):Int):=by unfold pw eZ zZ tI;rw[List.map_map];rfl
theorem Wd(a b:Nat):(if(b:Int)<(a:Int)then(b:Int)else(a:Int))=((min a b:Nat):Int):=by split<;>omega
theorem Iy(fr:Bool)(l:List Fp)(p:Fp):counted fr (l++[p])=if(fr&& !p.free)=true then counted fr l else counted fr l++[p.ed]:=by
 unfold counted;rw[List.filter_append,List.map_append];cases hb:(fr&& !p.free)with
 |true=>simp only[List.filter_cons,hb,Bool.not_true,Bool.false_eq_true,if_false,List.filter_nil,List.map_nil,if_true,List.append_nil]
 |false=>simp only[List.filter_cons,hb,Bool.not_false,Bool.false_eq_true,if_false,List.filter_nil,List.map_nil,List.map_cons,if_true]
theorem Ac(l:List Fp)(n:Nat)(hn:n≤64)(hl:l.length≤4096)(h:∀p∈l,p.a<n∧p.b<n)(fr:Bool):fE [.rs 4 (l.map Fp.pv),.int .i64 n,.bool fr]=some (.rs 1 (eZ n fun i j=>((dk n (start Aa (counted fr l)) n i j:Nat):Int))):=by
 have e0:aa 4 (.rs 4 (l.map Fp.pv))=some (l.map Fp.pv):=by simp[aa]
 have hE:∀y∈counted fr l,y.f<n∧y.t<n:=fun y hy=>by obtain⟨p,hp,rfl⟩:=wF hy;exact h p hp
 simp only[fE,qQ,e0,U,Fg,asBool];refine bT (fun i=>(l.map Fp.pv,(n:Int),fr,(i:Int),List.replicate i (PV.pG 1 (List.replicate n (PV.int .i64 1099511627776))),())) n (fun i hi rec=>?_) (fun rec=>?_) (by unfold rounds;omega) rfl
 ·unfold mZ;dsimp only;have hg:decide ((i:Int)<(n:Int))=true:=by simp;omega
  rw[if_pos hg];refine bT (fun j=>(l.map Fp.pv,(n:Int),fr,(i:Int),(j:Int),List.replicate i (PV.pG 1 (List.replicate n (PV.int .i64 1099511627776))),List.replicate j (PV.int .i64 1099511627776),())) n (fun j hj fD=>?_) (fun fD=>?_) (by unfold rounds;omega) rfl
  ·unfold na;dsimp only;have hg:decide ((j:Int)<(n:Int))=true:=by simp;omega
   have Dt:List.replicate j (PV.int .i64 1099511627776)++[PV.int .i64 1099511627776]=List.replicate (j+1) (PV.int .i64 1099511627776):=(List.replicate_succ' ..).symm;rw[if_pos hg];simp only[Dt,List.length_replicate];rw[if_pos (by unfold an;omega),ai (by omega)]
  ·unfold na;dsimp only;have Dt:List.replicate i (PV.pG 1 (List.replicate n (PV.int .i64 1099511627776)))++[PV.pG 1 (List.replicate n (PV.int .i64 1099511627776))]=List.replicate (i+1) (PV.pG 1 (List.replicate n (PV.int .i64 1099511627776))):=(List.replicate_succ' ..).symm;rw[if_neg (by simp)];simp only[Dt,List.length_replicate];rw[if_pos (by unfold an;omega),ai (by omega)]
 ·unfold mZ;dsimp only;rw[if_neg (by simp),S3];refine bT (fun k=>(l.map Fp.pv,(n:Int),fr,(k:Int),pw n (start Aa (counted fr (l.take k))),())) l.length (fun k hk fD=>?_) (fun fD=>?_) (by unfold rounds;omega) rfl
  ·unfold nb;dsimp only;have hg:decide ((k:Int)<((l.map Fp.pv).length:Int))=true:=by simp;omega
   obtain⟨p,hp⟩:∃p,l[k]?=some p:=⟨_,List.getElem?_eq_getElem hk⟩;have Fo:(l.map Fp.pv)[k]?=some p.pv:=by rw[List.getElem?_map,hp];rfl
   have htk:l.take (k+1)=l.take k++[p]:=by rw[List.take_add_one,hp];rfl
   obtain⟨pa,pb⟩:=h p (List.mem_of_getElem? hp);have hr:(bif p.free then some true else some !fr)=some (!(fr&& !p.free)):=by cases p.free<;>cases fr<;>rfl
   rw[if_pos hg,aQ,Fo,U,htk,Iy];simp only[fp3,asBool,U,hr];cases hb:(fr&& !p.free)with
   |true=>simp only[Bool.not_true,Bool.false_eq_true,if_false,if_true,ai (show k<9223372036854775807 by omega)]
   |false=>
    obtain⟨d,hd⟩:∃d,d=start Aa (counted fr (l.take k)):=⟨_,rfl⟩;have ia:ah (p.a:Int) (pw n d).length:=CR (by rw[tJ];exact pa);have ib:ah (p.b:Int) (zZ n (d p.a)).length:=CR (by rw[rE];exact pb);have oQ:pw n (start Aa (counted fr (l.take k)++[p.ed]))=pw n (Ix d p.a p.b (min (d p.a p.b) p.c)):=by rw[E2,←hd];rfl
    simp only[Bool.not_false,if_true,Bool.false_eq_true,if_false,oQ,←hd,fp0,fp1,fp2,Fg,U,if_pos ia,Int.toNat_natCast,tK _ pa,asR,if_pos ib,tL _ pb,cI,acD,acE,Wd,KV _ _ pa pb,ai (show k<9223372036854775807 by omega)]
  ·unfold nb;dsimp only;rw[if_neg (by simp),List.take_length,←S4];have acF:=E3 (n:=n) (inf:=Aa) (counted fr l);exact aa7 n _ hn fun k hk i hi j hj a b ha hb=>by have ih:=acF.rounds k (by omega);have:=(S2.rows (k:=k) ⟨ih.fw,ih.low,fun a b ha hb hd=>by omega⟩ hk i (by omega)).row hi hk j hj;exact this.fw.top a b ha hb
end Go.Ab.Nw
namespace Go.Ab.Nw
set_option maxRecDepth 100000
set_option linter.unusedVariables false
set_option linter.unusedSimpArgs false
def WM(i k:Nat)(s:Int)(b:Bool):PV:=.agg [.int .i64 i,.int .i64 k,.int .i64 s,.bool b]
def Cw(w f:Int)(i k:Nat):List PV:=if i=k∨w>14400 then[]else WM i k w (f==w)::(if f>w∧f≤14400 then[WM i k f true]else[])
def wG(n:Nat)(it:Nat→Nat→List PV)(i:Nat):List PV:=(List.range n).flatMap (it i)
def yX(n:Nat)(it:Nat→Nat→List PV)(m:Nat):List PV:=(List.range m).flatMap (wG n it)
theorem Bk(n:Nat)(it:Nat→Nat→List PV)(i:Nat):wG (n+1) it i=wG n it i++it i n:=by simp[wG,List.range_succ,List.flatMap_append]
theorem Bl(n:Nat)(it:Nat→Nat→List PV)(m:Nat):yX n it (m+1)=yX n it m++wG n it m:=by simp[yX,List.range_succ,List.flatMap_append]
theorem Ad{it:Nat→Nat→List PV}(h:∀i k,(it i k).length≤2)(i:Nat):∀k,(wG k it i).length≤2*k
 |0=>by simp[wG]
 |k+1=>by rw[Bk,List.length_append];have:=Ad h i k;have:=h i k;omega
theorem zS{it:Nat→Nat→List PV}(h:∀i k,(it i k).length≤2)(n:Nat):∀m,(yX n it m).length≤2*n*m
 |0=>by simp[yX]
 |m+1=>by rw[Bl,List.length_append,Nat.mul_succ];have:=zS h n m;have:=Ad h m n;omega
theorem Ii(w f:Int)(i k:Nat):(Cw w f i k).length≤2:=by
 unfold Cw;split
 ·simp
 ·split<;>simp
theorem Hb{n k:Nat}(D:Nat→Int)(h:k<n):(tI n D)[k]?=some (.int .i64 (D k)):=by simp[tI,h]
theorem Bm{n i:Nat}(D:Nat→Nat→Int)(h:i<n):(eZ n D)[i]?=some (.rs 1 (tI n (D i))):=by simp[eZ,h]
theorem aa8(es:List PV):aa 1 (cell (.rs 1 es) 0)=some es:=by show aa 1 (.rs 1 es)=some es;simp[aa]
theorem tR{a:List PV}(h:a.length≤16384):a.length*32≤an∧0<32:=by unfold an;omega
theorem O4(Bn:Ys→Option PV)(n i:Nat)(W F:Nat→Nat→Int)(hn:n≤64)(hi:i<n)(acc:List PV)(afV:acc.length≤8192):bC.run (lB bC Bn) ((n:Int),eZ n W,eZ n F,(i:Int),0,acc,())=Bn ((n:Int),eZ n W,eZ n F,IntKind.i64.wrap ((i:Int)+1),acc++wG n (fun i k=>Cw (W i k) (F i k) i k) i,()):=by
 refine bT (fun k=>((n:Int),eZ n W,eZ n F,(i:Int),(k:Int),acc++wG k (fun i k=>Cw (W i k) (F i k) i k) i,())) n (fun k hk rec=>?_) (fun rec=>?_) (by unfold rounds;omega) (by simp[wG])
 ·unfold lB;dsimp only;have hg:decide ((k:Int)<(n:Int))=true:=by simp;omega
  rw[Bk];have hlen:=Ad (it:=fun i k=>Cw (W i k) (F i k) i k) (fun i k=>Ii _ _ i k) i k;generalize hA:acc++wG k (fun i k=>Cw (W i k) (F i k) i k) i=A;have hAl:A.length≤8192+128:=by rw[←hA,List.length_append];omega
  rw[←List.append_assoc,hA];simp only[hg,if_true,aQ,Bm _ hi,U,aa8,Hb _ hk,cI,Fg,ai (show k<9223372036854775807 by omega)];generalize W i k=w;generalize F i k=f;by_cases Ct:i=k
  ·have hb:((i:Int)==(k:Int))=true:=by simp[Ct]
   have hit:Cw w f i k=[]:=if_pos (.inl Ct);simp only[hb,cond_true,U,if_true,hit,List.append_nil]
  ·have hb:((i:Int)==(k:Int))=false:=by rw[beq_eq_false_iff_ne];omega
   simp only[hb,cond_false,U];by_cases hw:w>14400
   ·have hit:Cw w f i k=[]:=if_pos (.inr hw);simp only[hw,decide_true,if_true,hit,List.append_nil]
   ·have E4:(A++[PV.agg [.int .i64 i,.int .i64 k,.int .i64 w,.bool (f==w)]]).length*32≤an∧0<32:=tR (by simp;omega);simp only[hw,decide_false,Bool.false_eq_true,if_false,if_pos E4];by_cases hf:f>w
    ·by_cases hf2:f≤14400
     ·have AK:(A++[PV.agg [.int .i64 i,.int .i64 k,.int .i64 w,.bool (f==w)]]++[PV.agg [.int .i64 i,.int .i64 k,.int .i64 f,.bool true]]).length*32≤an∧0<32:=tR (by simp;omega);have hit:Cw w f i k=[WM i k w (f==w),WM i k f true]:=by unfold Cw;rw[if_neg (by omega),if_pos ⟨hf,hf2⟩]
      simp only[hf,hf2,decide_true,cond_true,U,if_true,if_pos AK,hit];rw[List.append_assoc];rfl
     ·have hit:Cw w f i k=[WM i k w (f==w)]:=by unfold Cw;rw[if_neg (by omega),if_neg (by omega)]
      simp only[hf,hf2,decide_true,decide_false,cond_true,U,Bool.false_eq_true,if_false,hit];rfl
    ·have hit:Cw w f i k=[WM i k w (f==w)]:=by unfold Cw;rw[if_neg (by omega),if_neg (by omega)]
     simp only[hf,decide_false,cond_false,U,Bool.false_eq_true,if_false,hit];rfl
 ·unfold lB;dsimp only;rw[if_neg (by simp)]
theorem KW(n:Nat)(W F:Nat→Nat→Int)(hn:n≤64):bC.run (lC bC) ((n:Int),eZ n W,eZ n F,0,[],())=some (.rs 4 (yX n (fun i k=>Cw (W i k) (F i k) i k) n)):=by
 refine bT (fun i=>((n:Int),eZ n W,eZ n F,(i:Int),yX n (fun i k=>Cw (W i k) (F i k) i k) i,())) n (fun i hi rec=>?_) (fun rec=>?_) (by unfold rounds;omega) rfl
 ·unfold lC;dsimp only;have hg:decide ((i:Int)<(n:Int))=true:=by simp;omega
  have hlen:=zS (it:=fun i k=>Cw (W i k) (F i k) i k) (fun i k=>Ii _ _ i k) n i;have hb:2*n*i≤2*64*64:=Nat.mul_le_mul (by omega) (by omega);rw[if_pos hg,O4 rec n i W F hn hi _ (by omega),Bl,ai (by omega)]
 ·unfold lC;dsimp only;rw[if_neg (by simp)]
def rO(n:Nat)(l:List Fp)(fr:Bool)(i j:Nat):Int:=((dk n (start Aa (counted fr l)) n i j:Nat):Int)
theorem O5(l:List Fp)(n:Nat)(hn:n≤64)(hl:l.length≤4096)(h:∀p∈l,p.a<n∧p.b<n):fQ [.rs 4 (l.map Fp.pv),.int .i64 n]=some (.rs 4 (yX n (fun i k=>Cw (rO n l false i k) (rO n l true i k) i k) n)):=by
 have e0:aa 4 (.rs 4 (l.map Fp.pv))=some (l.map Fp.pv):=by simp[aa]
 have e1:∀es,aa 1 (.rs 1 es)=some es:=fun es=>by simp[aa]
 simp only[fQ,uo,e0,U,Fg,Ac l n hn hl h false,Ac l n hn hl h true,e1];exact KW n (rO n l false) (rO n l true) hn
end Go.Ab.Nw
namespace Go.Ab.Nw
set_option maxRecDepth 100000
set_option linter.unusedVariables false
set_option linter.unusedSimpArgs false
def LQ(w f:Int)(i k:Nat):List PV:=if i=k then[]else(if 0<w∧w≤14400 then[WM i k w (f==w)]else[])++(if f≠w∧0<f∧f≤14400 then[WM i k f true]else[])
theorem kM.pos{w:Nat→Nat→Nat→Prop}(h:∀i j c,w i j c→1≤c){i j L:Nat}(hw:kM w i j L):1≤L:=by
 cases hw with
 |EZ e=>exact h _ _ _ e
 |snoc _ e=>have:=h _ _ _ e;omega
def Yt(M:Nat)(d w:Int):Prop:=(d= -1∧w=(Aa:Int))∨(d=w∧1≤w∧w≤M)
theorem acG{M:Nat}(hM:M<Aa){d0 d1 w f:Int}(h0:Yt M d0 w)(h1:Yt M d1 f)(WG:d1≠-1→d0≠-1∧d0≤d1)(i k:Nat):LQ d0 d1 i k=Cw w f i k:=by
 unfold LQ Cw;by_cases Ct:i=k
 ·rw[if_pos Ct,if_pos (.inl Ct)]
 ·rw[if_neg Ct];have hM:(M:Int)<1099511627776:=by have:M<1099511627776:=hM;omega
  have afW:((Aa:Nat):Int)=1099511627776:=rfl;rw[Yt,afW]at h0 h1;rcases h0 with⟨e0,w0⟩|⟨e0,w1,w2⟩
  ·have e1:d1= -1:=by
    by_cases h:d1= -1
    ·exact h
    ·exact absurd e0 (WG h).1
   rw[if_neg (by omega),if_neg (by omega),if_pos (.inr (by omega))];rfl
  ·subst e0;rcases h1 with⟨e1,f0⟩|⟨e1,f1,f2⟩
   ·by_cases hw:d0≤14400
    ·have b1:(d1==d0)=false:=by rw[beq_eq_false_iff_ne];omega
     have b2:(f==d0)=false:=by rw[beq_eq_false_iff_ne];omega
     rw[if_pos ⟨by omega,hw⟩,if_neg (by omega),if_neg (by omega),if_neg (by omega),b1,b2];rfl
    ·rw[if_neg (by omega),if_neg (by omega),if_pos (.inr (by omega))];rfl
   ·subst e1;have hle:=(WG (by omega)).2;by_cases hw:d0≤14400
    ·rw[if_pos ⟨by omega,hw⟩,if_neg (show¬(i=k∨d0>14400) by omega)];by_cases hf:d1>d0∧d1≤14400
     ·rw[if_pos hf,if_pos ⟨by omega,by omega,by omega⟩];rfl
     ·rw[if_neg hf,if_neg (by omega)];rfl
    ·rw[if_neg (by omega),if_neg (by omega),if_pos (.inr (by omega))];rfl
theorem Rc{l:List Fp}{n B:Nat}(hn:n≤64)(hB:B≤1073741824)(h:∀p∈l,p.a<n∧p.b<n∧1≤p.c∧p.c≤B)(fr:Bool){i k:Nat}(hi:i<n)(hk:k<n)(Ct:i≠k){d:Int}(hd:O3 (counted fr l) (B*n) i k d):Yt (B*n) d (rO n l fr i k):=by
 have hE:∀y∈counted fr l,y.f<n∧y.t<n∧1≤y.c:=fun y hy=>by obtain⟨p,hp,rfl⟩:=wF hy;obtain⟨a,b,c,_⟩:=h p hp;exact⟨a,b,c⟩
 have hM:B*n<Aa:=by have:B*n≤1073741824*64:=Nat.mul_le_mul hB hn;show B*n<1099511627776;omega
 rcases Yq (inf:=Aa) (fun y hy=>⟨(hE y hy).1,(hE y hy).2.1⟩) hM hi hk Ct hd with⟨e1,e2⟩|⟨e1,e2⟩
 ·exact .inl ⟨e1,by unfold rO;rw[e2]⟩
 ·refine .inr ⟨e1,?_,by unfold rO;omega⟩;rcases hd with⟨e,_⟩|⟨L,e,_,hr,_⟩
  ·omega
  ·have:1≤L:=by
    rcases hr with⟨h,_⟩|hw
    ·exact absurd h.symm Ct
    ·exact hw.pos fun a b c hc=>(hE _ hc).2.2
   unfold rO;omega
theorem Yu{l:List Fp}{M i k:Nat}{d0 d1:Int}(h0:O3 (counted false l) M i k d0)(h1:O3 (counted true l) M i k d1)(cB:d1≠-1):d0≠-1∧d0≤d1:=by
 have sub:∀y,y∈counted true l→y∈counted false l:=fun y hy=>by unfold counted at hy⊢;obtain⟨p,hp,rfl⟩:=List.mem_map.1 hy;exact List.mem_map.2 ⟨p,List.mem_filter.2 ⟨(List.mem_filter.1 hp).1,rfl⟩,rfl⟩
 rcases h1 with⟨e,_⟩|⟨L1,e1,_,r1,_⟩
 ·exact absurd e cB
 ·have r:=r1.mem sub;rcases h0 with⟨_,h⟩|⟨L0,e0,_,_,m0⟩
  ·exact absurd r (h L1)
  ·have:=m0 L1 r;omega
end Go.Ab.Nw
namespace Go.Ab.Nw
set_option maxRecDepth 100000
set_option linter.unusedVariables false
set_option linter.unusedSimpArgs false
theorem Re(w f:Int)(i k:Nat):(LQ w f i k).length≤2:=by
 unfold LQ;split
 ·simp
 ·rw[List.length_append];split<;>split<;>simp
theorem S5(Bn:TY8→Option PV)(n i:Nat)(W F:Nat→Nat→Int)(hn:n≤64)(hi:i<n)(acc:List PV)(afV:acc.length≤8192):bC.run (gZ bC Bn) (eZ n W,eZ n F,(i:Int),(n:Int),(i:Int),tI n (W i),(n:Int),0,acc,())=Bn (eZ n W,eZ n F,(n:Int),IntKind.i64.wrap ((i:Int)+1),acc++wG n (fun i k=>LQ (W i k) (F i k) i k) i,()):=by
 refine bT (fun k=>(eZ n W,eZ n F,(i:Int),(n:Int),(i:Int),tI n (W i),(n:Int),(k:Int),acc++wG k (fun i k=>LQ (W i k) (F i k) i k) i,())) n (fun k hk rec=>?_) (fun rec=>?_) (by unfold rounds;omega) (by simp[wG])
 ·unfold gZ;dsimp only;have hg:decide ((k:Int)<(n:Int))=true:=by simp;omega
  rw[Bk];have hlen:=Ad (it:=fun i k=>LQ (W i k) (F i k) i k) (fun i k=>Re _ _ i k) i k;generalize hA:acc++wG k (fun i k=>LQ (W i k) (F i k) i k) i=A;have hAl:A.length≤8192+128:=by rw[←hA,List.length_append];omega
  rw[←List.append_assoc,hA];simp only[hg,if_true,aQ,Hb _ hk,Bm _ hi,U,aa8,cI,Fg,ai (show k<9223372036854775807 by omega)];generalize W i k=w;generalize F i k=f;by_cases Ct:i=k
  ·have hb:((i:Int)==(k:Int))=true:=by simp[Ct]
   have hit:LQ w f i k=[]:=if_pos Ct;simp only[hb,if_true,hit,List.append_nil]
  ·have hb:((i:Int)==(k:Int))=false:=by rw[beq_eq_false_iff_ne];omega
   have hand:∀x:Int,(bif decide (x>0)then some (decide (x≤14400))else some false)=some (decide (0<x∧x≤14400)):=fun x=>by
    by_cases h1:x>0
    ·have:(0<x∧x≤14400)↔x≤14400:=⟨fun h=>h.2,fun h=>⟨h1,h⟩⟩;rw[decide_eq_true h1,cond_true,decide_eq_decide.2 this.symm]
    ·have:¬(0<x∧x≤14400):=fun h=>h1 h.1;rw[decide_eq_false h1,cond_false,decide_eq_false this]
   have E4:(A++[PV.agg [.int .i64 i,.int .i64 k,.int .i64 w,.bool (f==w)]]).length*32≤an∧0<32:=tR (by simp;omega);have AK:(A++[PV.agg [.int .i64 i,.int .i64 k,.int .i64 w,.bool (f==w)]]++[PV.agg [.int .i64 i,.int .i64 k,.int .i64 f,.bool true]]).length*32≤an∧0<32:=tR (by simp;omega);have Xm:(A++[PV.agg [.int .i64 i,.int .i64 k,.int .i64 f,.bool true]]).length*32≤an∧0<32:=tR (by simp;omega);have cB:(f !=w)=decide (f≠w):=by
    by_cases h:f=w
    ·simp[h]
    ·simp[h]
   have hit:LQ w f i k=(if 0<w∧w≤14400 then[WM i k w (f==w)]else[])++(if f≠w∧0<f∧f≤14400 then[WM i k f true]else[]):=if_neg Ct;simp only[hb,Bool.false_eq_true,if_false,hand,U,cB,decide_eq_true_eq,hit,if_pos E4,if_pos AK,if_pos Xm];by_cases h1:0<w∧w≤14400
   ·by_cases h2:f≠w
    ·by_cases h3:0<f∧f≤14400
     ·rw[if_pos h1,if_pos h2,if_pos h3,if_pos h1,if_pos ⟨h2,h3⟩,List.append_assoc];rfl
     ·rw[if_pos h1,if_pos h2,if_neg h3,if_pos h1,if_neg (fun h=>h3 h.2)];rfl
    ·rw[if_pos h1,if_neg h2,if_pos h1,if_neg (fun h=>h2 h.1)];rfl
   ·by_cases h2:f≠w
    ·by_cases h3:0<f∧f≤14400
     ·rw[if_neg h1,if_pos h2,if_pos h3,if_neg h1,if_pos ⟨h2,h3⟩];rfl
     ·rw[if_neg h1,if_pos h2,if_neg h3,if_neg h1,if_neg (fun h=>h3 h.2)];simp
    ·rw[if_neg h1,if_neg h2,if_neg h1,if_neg (fun h=>h2 h.1)];simp
 ·unfold gZ;dsimp only;rw[if_neg (by simp)]
theorem O6(n:Nat)(W F:Nat→Nat→Int)(hn:n≤64){es':List PV}(hs:vS 4 (fun c a b=>bR [a,b]) (yX n (fun i k=>LQ (W i k) (F i k) i k) n)=some es'):bC.run (hU bC) (eZ n W,eZ n F,(n:Int),0,[],())=some (.rs 4 es'):=by
 have hlen:∀i,i≤n→(yX n (fun i k=>LQ (W i k) (F i k) i k) i).length≤8192:=fun i hi=>by have h1:=zS (it:=fun i k=>LQ (W i k) (F i k) i k) (fun i k=>Re _ _ i k) n i;have hb:2*n*i≤2*64*64:=Nat.mul_le_mul (by omega) (by omega);omega
 refine bT (fun i=>(eZ n W,eZ n F,(n:Int),(i:Int),yX n (fun i k=>LQ (W i k) (F i k) i k) i,())) n (fun i hi rec=>?_) (fun rec=>?_) (by unfold rounds;omega) rfl
 ·unfold hU;dsimp only;have hg:decide ((i:Int)<(n:Int))=true:=by simp;omega
  have Zf:((tI n (W i)).length:Int)=(n:Int):=by simp[tI]
  rw[if_pos hg,aQ,Bm _ hi,U,aa8,U,Zf,S5 rec n i W F hn hi _ (hlen i (by omega)),Bl,ai (by omega)]
 ·unfold hU;dsimp only;have h:=hlen n (Nat.le_refl _);rw[if_neg (by simp),if_pos (by(first|refine⟨rfl,?_,rfl⟩|refine⟨rfl,?_⟩);unfold an;omega),hs];rfl
end Go.Ab.Nw
namespace Go.Ab.Nw
set_option maxRecDepth 100000
set_option linter.unusedVariables false
set_option linter.unusedSimpArgs false
def kI:PV→Int
 |.int _ n=>n
 |_=>0
def c3(x y:Int):Int:=if x<y then-1 else if x>y then 1 else 0
def or3(a b c:Int):Int:=if a≠0 then a else if b≠0 then b else c
def ZK(a b:List PV):Int:=or3 (c3 (kI (a.getD 0 .bad)) (kI (b.getD 0 .bad))) (c3 (kI (a.getD 1 .bad)) (kI (b.getD 1 .bad))) (c3 (kI (a.getD 2 .bad)) (kI (b.getD 2 .bad)))
theorem O7(x y:Int):dW [.int .i64 x,.int .i64 y]=some (.int .i64 (c3 x y)):=by
 have h:∀z:Int,¬(z !=z)=true:=fun z=>by simp
 simp only[dW,oX,Fg,U,if_neg (h x),if_neg (h y),decide_eq_true_eq];unfold c3;split
 ·rfl
 ·split<;>rfl
theorem acH(a b c:Int):nc [.rs 1 [.int .i64 a,.int .i64 b,.int .i64 c]]=some (.int .i64 (or3 a b c)):=by
 have e0:aa 1 (.rs 1 [.int .i64 a,.int .i64 b,.int .i64 c])=some [.int .i64 a,.int .i64 b,.int .i64 c]:=by simp[aa]
 simp only[nc,yC,e0,U];obtain⟨es,Ff⟩:∃es,es=[PV.int .i64 a,.int .i64 b,.int .i64 c]:=⟨_,rfl⟩;have hl:((es.length:Nat):Int)=3:=by rw[Ff];rfl
 rw[←Ff];have hb:∀(k:Nat)(x:Int),es[k]?=some (.int .i64 x)→k<3→∀rec,eH (0,es,((es.length:Nat):Int),(k:Int),()) rec=if x≠0 then some (.int .i64 x)else rec (0,es,((es.length:Nat):Int),((k+1:Nat):Int),()):=fun k x hx hk rec=>by
  unfold eH;dsimp only;have hg:decide ((k:Int)<((es.length:Nat):Int))=true:=by rw[hl];simp;omega
  rw[if_pos hg,aQ,hx,U,cI,Fg,U,ai (by omega)];by_cases h:x=0
  ·subst h;rfl
  ·have:(x !=0)=true:=by simpa using h
   rw[if_pos this,if_pos h]
 have he:∀rec,eH (0,es,((es.length:Nat):Int),((3:Nat):Int),()) rec=some (.int .i64 0):=fun rec=>by
  unfold eH;dsimp only;have hg:¬decide (((3:Nat):Int)<((es.length:Nat):Int))=true:=by rw[hl];decide
  rw[if_neg hg]
 have hN:rounds=18446744073709551612+1+1+1+1:=rfl;rw[mf,hN];generalize 18446744073709551612=N;show eH (0,es,((es.length:Nat):Int),((0:Nat):Int),()) _=_;rw[hb 0 a (by rw[Ff];rfl) (by omega)];unfold or3;by_cases h1:a≠0
 ·rw[if_pos h1,if_pos h1]
 ·rw[if_neg h1,if_neg h1];show eH (0,es,((es.length:Nat):Int),((1:Nat):Int),()) _=_;rw[hb 1 b (by rw[Ff];rfl) (by omega)];by_cases h2:b≠0
  ·rw[if_pos h2,if_pos h2]
  ·rw[if_neg h2,if_neg h2];show eH (0,es,((es.length:Nat):Int),((2:Nat):Int),()) _=_;rw[hb 2 c (by rw[Ff];rfl) (by omega)];by_cases h3:c≠0
   ·rw[if_pos h3]
   ·rw[if_neg h3];show eH (0,es,((es.length:Nat):Int),((3:Nat):Int),()) _=_;rw[he];have:c=0:=Decidable.not_not.1 h3;rw[this]
def To(i k:Nat)(s:Int)(b:Bool):List PV:=[.int .i64 i,.int .i64 k,.int .i64 s,.bool b]
theorem We(i k:Nat)(s:Int)(b:Bool)(i' k':Nat)(s':Int)(b':Bool):bR [xg (To i k s b),xg (To i' k' s' b')]=some (.int .i64 (ZK (To i k s b) (To i' k' s' b'))):=by have a:∀(w x y z:PV),asAgg 4 (.agg [w,x,y,z])=some ():=fun _ _ _ _=>rfl;have a0:∀(w x y z:PV),cell (.agg [w,x,y,z]) 0=w:=fun _ _ _ _=>rfl;have a1:∀(w x y z:PV),cell (.agg [w,x,y,z]) 1=x:=fun _ _ _ _=>rfl;have a2:∀(w x y z:PV),cell (.agg [w,x,y,z]) 2=y:=fun _ _ _ _=>rfl;have a3:∀(w x y z:PV),cell (.agg [w,x,y,z]) 3=z:=fun _ _ _ _=>rfl;simp only[bR,lL,xg,To,a,a0,a1,a2,a3,Fg,asBool,U,O7,acH];rfl
end Go.Ab.Nw
namespace Go.Ab.Nw
set_option maxRecDepth 100000
set_option linter.unusedVariables false
set_option linter.unusedSimpArgs false
theorem O8(x y:Int):(c3 x y<0↔x<y)∧(c3 x y=0↔x=y):=by unfold c3;split<;>(try split)<;>constructor<;>constructor<;>intro h<;>first|omega|(exfalso;omega)
theorem Bo(i k:Nat)(s:Int)(b:Bool)(i' k':Nat)(s':Int)(b':Bool):ZK (To i k s b) (To i' k' s' b')<0↔i<i'∨(i=i'∧(k<k'∨(k=k'∧s<s'))):=by
 show or3 (c3 (i:Int) (i':Int)) (c3 (k:Int) (k':Int)) (c3 s s')<0↔_;have h1:=O8 (i:Int) (i':Int);have h2:=O8 (k:Int) (k':Int);have h3:=O8 s s';unfold or3;split
 ·constructor<;>intro h<;>omega
 ·split
  ·constructor<;>intro h<;>omega
  ·constructor<;>intro h<;>omega
def IsF(e:List PV):Prop:=∃i k s b,e=To i k s b
variable{ns:List (List PV)}
theorem O9(h:ns.Pairwise fun a b=>ZK a b<0):∀a∈ns,∀b∈ns,¬ZK a b<0→¬ZK b a<0→a=b:=by
 induction h with
 |nil=>intro a ha;cases ha
 | @cons x l hx _ ih=>
  intro a ha b hb h1 h2;rcases List.mem_cons.1 ha with ea|YU
  ·rcases List.mem_cons.1 hb with eb|gB
   ·rw[ea,eb]
   ·rw[ea]at h1;exact absurd (hx b gB) h1
  ·rcases List.mem_cons.1 hb with eb|gB
   ·rw[eb]at h2;exact absurd (hx a YU) h2
   ·exact ih a YU b gB h1 h2
theorem KX(hF:∀e∈ns,IsF e)(h:ns.Pairwise fun a b=>ZK a b<0):kA 4 (fun c a b=>bR [a,b]) ns ns ZK where
 len a ha:=by obtain⟨i,k,s,b,rfl⟩:=hF a ha;rfl
 T5 a ha p hp:=by obtain⟨i,k,s,b,rfl⟩:=hF a ha;simp only[To,List.mem_cons,List.not_mem_nil,or_false]at hp;rcases hp with rfl|rfl|rfl|rfl<;>rfl
 perm:=List.Perm.refl _
 reads c _ _ a ha b hb:=by obtain⟨i,k,s,q,rfl⟩:=hF a ha;obtain⟨i',k',s',q',rfl⟩:=hF b hb;exact We ..
 irrefl a ha:=by obtain⟨i,k,s,q,rfl⟩:=hF a ha;rw[Bo];omega
 trans a ha b hb c hc h1 h2:=by obtain⟨i,k,s,q,rfl⟩:=hF a ha;obtain⟨i',k',s',q',rfl⟩:=hF b hb;obtain⟨i2,k2,s2,q2,rfl⟩:=hF c hc;rw[Bo]at*;omega
 total:=O9 h
 sorted:=h.imp_of_mem fun{a b}ha hb sQ=>by obtain⟨i,k,s,q,rfl⟩:=hF a ha;obtain⟨i',k',s',q',rfl⟩:=hF b hb;rw[Bo]at*;omega
def itC(w f:Int)(i k:Nat):List (List PV):=if i=k∨w>14400 then[]else To i k w (f==w)::(if f>w∧f≤14400 then[To i k f true]else[])
theorem Yv(w f:Int)(i k:Nat):(itC w f i k).map xg=Cw w f i k:=by
 unfold itC Cw;split
 ·rfl
 ·split<;>rfl
def FB(n:Nat)(W F:Nat→Nat→Int):List (List PV):=(List.range n).flatMap fun i=>(List.range n).flatMap fun k=>itC (W i k) (F i k) i k
theorem Be(n:Nat)(W F:Nat→Nat→Int):eB (FB n W F)=yX n (fun i k=>Cw (W i k) (F i k) i k) n:=by unfold eB FB yX wG;rw[List.map_flatMap];congr 1;funext i;rw[List.map_flatMap];congr 1;funext k;exact Yv ..
theorem Ae{w f:Int}{i k:Nat}{e:List PV}(h:e∈itC w f i k):∃s b,e=To i k s b:=by
 unfold itC at h;split at h
 ·cases h
 ·rcases List.mem_cons.1 h with rfl|h
  ·exact⟨_,_,rfl⟩
  ·split at h
   ·simp at h;subst h;exact⟨_,_,rfl⟩
   ·cases h
theorem KC(n:Nat)(W F:Nat→Nat→Int):∀e∈FB n W F,IsF e:=fun e h=>by obtain⟨i,_,h⟩:=List.mem_flatMap.1 h;obtain⟨k,_,h⟩:=List.mem_flatMap.1 h;obtain⟨s,b,rfl⟩:=Ae h;exact⟨i,k,s,b,rfl⟩
theorem KY(n:Nat)(W F:Nat→Nat→Int):(FB n W F).Pairwise fun a b=>ZK a b<0:=by
 unfold FB;rw[List.pairwise_flatMap];refine⟨fun i _=>?_,List.pairwise_lt_range.imp fun{i i'}Ga x hx y hy=>?_⟩
 ·rw[List.pairwise_flatMap];refine⟨fun k _=>?_,List.pairwise_lt_range.imp fun{k k'}BM x hx y hy=>?_⟩
  ·unfold itC;split
   ·exact .nil
   ·split
    ·rename_i h;refine List.pairwise_cons.2 ⟨fun y hy=>?_,List.pairwise_singleton ..⟩;simp at hy;subst hy;rw[Bo];omega
    ·exact List.pairwise_singleton ..
  ·obtain⟨s,b,rfl⟩:=Ae hx;obtain⟨s',b',rfl⟩:=Ae hy;rw[Bo];omega
 ·obtain⟨k,_,hx⟩:=List.mem_flatMap.1 hx;obtain⟨k',_,hy⟩:=List.mem_flatMap.1 hy;obtain⟨s,b,rfl⟩:=Ae hx;obtain⟨s',b',rfl⟩:=Ae hy;rw[Bo];omega
theorem OQ(l:List Fp)(n:Nat)(hn:n≤64)(hl:l.length≤4096)(h:∀p∈l,p.a<n∧p.b<n∧1≤p.c∧p.c≤14400):eA [.rs 4 (l.map Fp.pv),.int .i64 n]=some (.rs 4 (eB (FB n (rO n l false) (rO n l true))))∧fQ [.rs 4 (l.map Fp.pv),.int .i64 n]=some (.rs 4 (eB (FB n (rO n l false) (rO n l true)))):=by
 have hr:=O5 l n hn hl fun p hp=>⟨(h p hp).1,(h p hp).2.1⟩;rw[←Be]at hr;refine⟨?_,hr⟩;have hB:(14400:Nat)≤1073741824:=by omega
 obtain⟨D0,d0,e0⟩:=Ra l n 14400 hn hl hB (fun p hp=>⟨(h p hp).1,(h p hp).2.1,(h p hp).2.2.2⟩) false;obtain⟨D1,d1,e1⟩:=Ra l n 14400 hn hl hB (fun p hp=>⟨(h p hp).1,(h p hp).2.1,(h p hp).2.2.2⟩) true;have hM:14400*n<Aa:=by show 14400*n<1099511627776;omega
 have MC:yX n (fun i k=>LQ (D0 i k) (D1 i k) i k) n=eB (FB n (rO n l false) (rO n l true)):=by
  rw[Be];unfold yX wG;rw[List.flatMap_def,List.flatMap_def];congr 1;apply List.map_congr_left;intro i hi;rw[List.flatMap_def,List.flatMap_def];congr 1;apply List.map_congr_left;intro k hk;have hi:=List.mem_range.1 hi;have hk:=List.mem_range.1 hk;dsimp only;by_cases Ct:i=k
  ·rw[show LQ (D0 i k) (D1 i k) i k=[]from if_pos Ct,show Cw (rO n l false i k) (rO n l true i k) i k=[]from if_pos (.inl Ct)]
  ·exact acG hM (Rc hn hB h false hi hk Ct (d0 i k hi hk)) (Rc hn hB h true hi hk Ct (d1 i k hi hk)) (Yu (d0 i k hi hk) (d1 i k hi hk)) i k
 have a0:aa 4 (.rs 4 (l.map Fp.pv))=some (l.map Fp.pv):=by simp[aa]
 have a1:∀es,aa 1 (.rs 1 es)=some es:=fun es=>by simp[aa]
 have hlen:((eZ n D0).length:Int)=(n:Int):=by simp[eZ]
 simp only[eA,nE,a0,Fg,U,e0,e1,a1,hlen];exact O6 n D0 D1 hn (by rw[MC];exact Sf (KX (KC _ _ _) (KY _ _ _)))
end Go.Ab.Nw
