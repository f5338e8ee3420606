import Derived.Test.YtanikidijjaohaaGreatNwP1
namespace Go.Ab.Nw
set_option maxRecDepth 100000
set_option linter.unusedVariables false
set_option linter.unusedSimpArgs false
def Re(E:List Ed)(M:Nat)(s v:Nat)(d:Int):Prop:=(d= -1∧∀L,¬Ku E s v L)∨∃L:Nat,d=L∧L≤M∧Ku E s v L∧∀L',Ku E s v L'→L≤L'
theorem Re.unique{E:List Ed}{M M' s v:Nat}{d d':Int}(h:Re E M s v d)(h':Re E M' s v d'):d=d':=by
 rcases h with⟨e,h⟩|⟨L,e,_,h1,h2⟩
 ·rcases h' with⟨e',_⟩|⟨L',_,_,Ua,_⟩
  ·rw[e,e']
  ·exact absurd Ua (h L')
 ·rcases h' with⟨_,h'⟩|⟨L',e',_,Ua,ZN⟩
  ·exact absurd h1 (h' L)
  ·rw[e,e',amK (h2 _ Ua) (ZN _ h1)]
theorem Ku.mem{E E':List Ed}(h:∀y,y∈E→y∈E'){s v L:Nat}(hr:Ku E s v L):Ku E' s v L:=by
 rcases hr with hr|hr
 ·exact .inl hr
 ·exact .inr (hr.mono fun i j c hc=>h _ hc)
theorem Re.mem{E E':List Ed}(h:∀y,y∈E↔y∈E'){M s v:Nat}{d:Int}(hd:Re E M s v d):Re E' M s v d:=by
 rcases hd with⟨e,h1⟩|⟨L,e,hM,h1,h2⟩
 ·exact .inl ⟨e,fun L hL=>h1 L (hL.mem fun y hy=>(h y).2 hy)⟩
 ·exact .inr ⟨L,e,hM,h1.mem fun y hy=>(h y).1 hy,fun L' hL=>h2 L' (hL.mem fun y hy=>(h y).2 hy)⟩
def va(n:Nat)(D:Nat→Int):List PV:=(List.range n).map fun v=>.int .i64 (D v)
def fm(n:Nat)(D:Nat→Nat→Int):List PV:=(List.range n).map fun s=>.rs 1 (va n (D s))
variable{D:Nat→Nat→Int}
theorem MU{n:Nat}{D':Nat→Nat→Int}(h:∀s v,s<n→v<n→D s v=D' s v):fm n D=fm n D':=by unfold fm;apply aj9;intro s hs;unfold va;congr 1;apply aj9;intro v hv;rw[h s v (ala.1 hs) (ala.1 hv)]
theorem YJ(E:List Ed)(n B:Nat)(hn:n≤64)(hE:E.length≤4096)(hB:B≤1073741824)(h:∀y∈E,y.f<n∧y.t<n∧y.c≤B):∃D:Nat→Nat→Int,(∀s v,s<n→v<n→Re E (B*n) s v (D s v))∧gq [.int .i64 n,.rs 3 (E.map Ed.pv)]=some (.bu [.rs 1 (fm n D),.int .i64 0]):=by
 have h':∀y∈E,y.f<n∧y.t<n∧y.c≤1073741824:=fun y hy=>⟨(h y hy).1,(h y hy).2.1,by have:=(h y hy).2.2;omega⟩;have hG:=YI E n hn hE h';have each:∀s,∃o:oZ,s<n→(∃pu,DI E n s B o pu [])∧fl [.int .i64 n,.rm 3 ((IY (y9 E)).map fun x=>x.1) ((IY (y9 E)).map fun x=>x.2.oD),.int .i64 s]=some (.rs 3 (dU n o)):=fun s=>by
  by_cases hs:s<n
  ·obtain⟨o,pu,h1,h2⟩:=Vn hG hs hB (fun y hy=>(h y hy).2.2) hn;exact⟨o,fun _=>⟨⟨pu,h1⟩,h2⟩⟩
  ·exact⟨fun _=>none,fun h=>absurd h hs⟩
 obtain⟨o,ho⟩:=Classical.axiomOfChoice each;refine⟨fun s v=>Kx (o s v),fun s v hs hv=>?_,?_⟩
 ·obtain⟨⟨pu,hI⟩,_⟩:=ho s hs;have:=hI.done h hv;cases hl:o s v with
  |none=>rw[hl]at this;exact .inl ⟨by dsimp only;rw[hl];rfl,this⟩
  |some p=>obtain⟨L,e⟩:=p;rw[hl]at this;exact .inr ⟨L,by dsimp only;rw[hl];rfl,this.1,this.2.1,this.2.2⟩
 ·have e0:aP 3 (.rs 3 (E.map Ed.pv))=some (E.map Ed.pv):=by simp[aP]
  have e9:(0:Int)≤(n:Int)∧(n:Int)≤(n:Int)∧n*24≤af∧0<24∧0<1:=by refine⟨by omega,by omega,?_,by omega,by omega⟩;unfold af;omega
  have hz:((0:Int) !=0)=false:=rfl;simp only[gq,vR,G3,e0,U,YG E n hn hE h',hz,By,abG,KA E hE,dZ,aaV,ajw,BK e9,ak2];refine cj (fun k=>((n:Int),PV.rm 3 ((IY (y9 E)).map fun x=>x.1) ((IY (y9 E)).map fun x=>x.2.oD),(n:Int),(k:Int),tw n k (fun s=>.rs 1 (va n fun v=>Kx (o s v))) (.rs 0 []),())) n (fun k hk rec=>?_) (fun rec=>?_) (by unfold rounds;omega) ?_
  ·unfold mw;dsimp only;have hg:decide ((k:Int)<(n:Int))=true:=by simp;omega
   have e3:aP 3 (.rs 3 (dU n (o k)))=some (dU n (o k)):=by simp[aP]
   have e1:aP 1 (.rs 1 ((List.range n).map fun v=>PV.int .i64 (Kx (o k v))))=some ((List.range n).map fun v=>PV.int .i64 (Kx (o k v))):=by simp[aP]
   rw[BK hg,(ho k hk).2,U,e3,U,Rc n hn,U,e1,U,BK (Ew (by rw[MQ];exact hk)),ajw,MR hk,U,ag (by omega)];have:=MS (F:=fun s=>PV.rs 1 (va n fun v=>Kx (o s v))) (z:=.rs 0 []) hk;unfold va at this⊢;rw[this]
  ·unfold mw;dsimp only;rw[IN (by simp),MT];rfl
  ·rw[IX];rfl
theorem YK(E E':List Ed)(n B:Nat)(hn:n≤64)(hE:E'.length≤4096)(hB:B≤1073741824)(h:∀y∈E,y.f<n∧y.t<n∧y.c≤B)(he:∀y,y∈E↔y∈E')(hD:∀s v,s<n→v<n→Re E (B*n) s v (D s v)):gq [.int .i64 n,.rs 3 (E'.map Ed.pv)]=some (.bu [.rs 1 (fm n D),.int .i64 0]):=by obtain⟨D',d1,d2⟩:=YJ E' n B hn hE hB fun y hy=>h y ((he y).2 hy);rw[d2,MU fun s v hs hv=>((hD s v hs hv).mem he).unique (d1 s v hs hv)]
structure Fp where
 a:Nat
 b:Nat
 c:Nat
 free:Bool
 deriving DecidableEq
def Fp.pv(p:Fp):PV:=.agg [.int .i64 p.a,.int .i64 p.b,.int .i64 p.c,.bool p.free]
theorem fp0(p:Fp):cell p.pv 0=.int .i64 p.a:=rfl
theorem fp1(p:Fp):cell p.pv 1=.int .i64 p.b:=rfl
theorem fp2(p:Fp):cell p.pv 2=.int .i64 p.c:=rfl
theorem fp3(p:Fp):cell p.pv 3=.bool p.free:=rfl
def Fp.ed(p:Fp):Ed:=⟨p.a,p.b,p.c⟩
def AG(z:Ed):List Ed→List Ed
 |[]=>[z]
 |e::r=>if z.f=e.f∧z.t=e.t then z::r else e::AG z r
def BE(a b:Nat):List Ed→Option Nat
 |[]=>none
 |e::r=>if a=e.f∧b=e.t then some e.c else BE a b r
theorem GQ(a b:Nat)(z:Ed):∀m,BE a b (AG z m)=if a=z.f∧b=z.t then some z.c else BE a b m
 |[]=>rfl
 |e::r=>by
  simp only[AG];by_cases h:z.f=e.f∧z.t=e.t
  ·rw[BK h];simp only[BE];by_cases h2:a=z.f∧b=z.t
   ·rw[BK h2,BK h2]
   ·rw[IN h2,IN h2,IN (by rw[←h.1,←h.2];exact h2)]
  ·rw[IN h];simp only[BE];by_cases h2:a=e.f∧b=e.t
   ·rw[BK h2,IN (by rw[h2.1,h2.2];rintro⟨x,y⟩;exact h ⟨x.symm,y.symm⟩),BK h2]
   ·rw[IN h2,IN h2];exact GQ a b z r
theorem MV(z e:Ed):∀m,e∈AG z m→e=z∨e∈m
 |[],h=>by simp[AG]at h;exact .inl h
 |x::r,h=>by
  simp only[AG]at h;split at h
  ·rcases ah4.1 h with h|h
   ·exact .inl h
   ·exact .inr (by simp[h])
  ·rcases ah4.1 h with h|h
   ·exact .inr (by simp[h])
   ·rcases MV z e r h with h|h
    ·exact .inl h
    ·exact .inr (by simp[h])
theorem MW{a b x:Nat}:∀{m:List Ed},BE a b m=some x→∃e∈m,e.f=a∧e.t=b∧e.c=x
 |[],h=>by cases h
 |e::r,h=>by
  simp only[BE]at h;split at h
  ·rename_i h2;cases h;exact⟨e,by simp,h2.1.symm,h2.2.symm,rfl⟩
  ·obtain⟨e',h1,h2⟩:=MW h;exact⟨e',by simp[h1],h2⟩
theorem MX(z:Ed):∀m,(AG z m).length≤m.length+1
 |[]=>by simp[AG]
 |e::r=>by
  simp only[AG];split
  ·simp
  ·have:=MX z r;simp;omega
def TA(fr:Bool)(m:List Ed)(p:Fp):List Ed:=if(fr&& !p.free)=true then m else match BE p.a p.b m with
 |none=>AG p.ed m
 |some x=>if p.c<x then AG p.ed m else m
def mL(fr:Bool)(l:List Fp):List Ed:=l.foldl (TA fr) []
theorem I2(fr:Bool)(l:List Fp)(p:Fp):mL fr (l++[p])=TA fr (mL fr l) p:=by simp[mL]
def counted(fr:Bool)(l:List Fp):List Ed:=(l.filter fun p=> !(fr&& !p.free)).map Fp.ed
theorem TC(fr:Bool)(l:List Fp):(∀e∈mL fr l,e∈counted fr l)∧(∀e∈counted fr l,∃x,BE e.f e.t (mL fr l)=some x∧x≤e.c)∧(mL fr l).length≤l.length:=by
 rw[←alE l];induction l.reverse with
 |nil=>exact⟨(fun e h=>by simp[mL]at h),(fun e h=>by simp[counted]at h),ajC _⟩
 |cons p l ih=>
  rw[alb,I2];obtain⟨i1,i2,i3⟩:=ih;have hc:counted fr (l.reverse++[p])=counted fr l.reverse++(if(fr&& !p.free)=true then[]else[p.ed]):=by
   unfold counted;rw[alw,ajV];congr 1;cases hb:(fr&& !p.free)with
   |true=>simp only[akc,hb,ajx,By,abG,alx,akv,aaV]
   |false=>simp only[akc,hb,ajT,By,abG,alx,akv,ajy,aaV]
  rw[hc];unfold TA;by_cases h:(fr&& !p.free)=true
  ·rw[BK h,BK h];exact⟨fun e he=>by simpa using i1 e he,fun e he=>i2 e (by simpa using he),by simp at i3⊢;omega⟩
  ·rw[IN h,IN h];have put:(∀e∈AG p.ed (mL fr l.reverse),e∈counted fr l.reverse++[p.ed]):=fun e he=>by
    rcases MV _ _ _ he with rfl|he
    ·simp
    ·exact alF _ (i1 e he)
   have len:(AG p.ed (mL fr l.reverse)).length≤(l.reverse++[p]).length:=by have:=MX p.ed (mL fr l.reverse);simp at i3⊢;omega
   cases hb:BE p.a p.b (mL fr l.reverse)with
   |none=>
    refine⟨put,fun e he=>?_,len⟩;rw[GQ];by_cases hk:e.f=p.ed.f∧e.t=p.ed.t
    ·rw[BK hk];rcases ajI.1 he with he|he
     ·obtain⟨x,h1,_⟩:=i2 e he;rw[hk.1,hk.2]at h1;rw[show p.ed.f=p.a from rfl,show p.ed.t=p.b from rfl,hb]at h1;cases h1
     ·simp at he;subst he;exact⟨_,rfl,ajC _⟩
    ·rw[IN hk];rcases ajI.1 he with he|he
     ·exact i2 e he
     ·simp at he;subst he;exact absurd ⟨rfl,rfl⟩ hk
   |some x=>
    dsimp only;by_cases hx:p.c<x
    ·rw[BK hx];refine⟨put,fun e he=>?_,len⟩;rw[GQ];by_cases hk:e.f=p.ed.f∧e.t=p.ed.t
     ·rw[BK hk];rcases ajI.1 he with he|he
      ·obtain⟨y,h1,h2⟩:=i2 e he;rw[hk.1,hk.2,show p.ed.f=p.a from rfl,show p.ed.t=p.b from rfl,hb]at h1;cases h1;exact⟨_,rfl,by show p.c≤e.c;omega⟩
      ·simp at he;subst he;exact⟨_,rfl,ajC _⟩
     ·rw[IN hk];rcases ajI.1 he with he|he
      ·exact i2 e he
      ·simp at he;subst he;exact absurd ⟨rfl,rfl⟩ hk
    ·rw[IN hx];refine⟨fun e he=>alF _ (i1 e he),fun e he=>?_,by simp at i3⊢;omega⟩;rcases ajI.1 he with he|he
     ·exact i2 e he
     ·simp at he;subst he;exact⟨x,hb,by show x≤p.c;omega⟩
def oa(e:Ed):PV×PV:=(.agg [.int .i64 e.f,.int .i64 e.t,.bool false],.int .i64 e.c)
theorem aeQ(a b c d:Nat):dW (PV.agg [.int .i64 a,.int .i64 b,.bool false]).cells (PV.agg [.int .i64 c,.int .i64 d,.bool false]).cells=decide (a=c∧b=d):=by
 have h:∀x y:Nat,((x:Int)==(y:Int))=decide (x=y):=fun x y=>by
  by_cases h:x=y
  ·simp[h]
  ·rw[akd h,akm];omega
 simp only[PV.cells,dW,peq,akY,h,beq_self_eq_true,Bool.decide_and]
theorem abD(a b:Nat):∀m:List Ed,dS (.agg [.int .i64 a,.int .i64 b,.bool false]) (.int .i64 0) (m.map oa)=.int .i64 (((BE a b m).getD 0:Nat):Int)∧wK (.agg [.int .i64 a,.int .i64 b,.bool false]) (m.map oa)=(BE a b m).isSome
 |[]=>⟨rfl,rfl⟩
 |e::r=>by
  obtain⟨h1,h2⟩:=abD a b r;simp only[ajy,oa,dS,wK,aeQ,BE];by_cases h:a=e.f∧b=e.t
  ·simp[h]
  ·simp only[h,ajU,By,abG,akz];exact⟨h1,h2⟩
theorem acO(z:Ed):∀m:List Ed,fg (.agg [.int .i64 z.f,.int .i64 z.t,.bool false]) (.int .i64 z.c) (m.map oa)=(AG z m).map oa
 |[]=>rfl
 |e::r=>by
  have ih:=acO z r;simp only[ajy,fg,AG];rw[show(oa e)=(PV.agg [.int .i64 e.f,.int .i64 e.t,.bool false],PV.int .i64 e.c)from rfl];simp only[aeQ];by_cases h:z.f=e.f∧z.t=e.t
  ·simp[h,oa]
  ·simp only[h,ajU,By,abG,ajy,ih];rfl
theorem Ff{R:Type}{n:Nat}{g:Nat→Option R}{r:R}(hn:0<n)(h:∀i,i<n→g i=some r):ti n g=some r:=by unfold ti;have hh:∃r,∀i,i<n→g i=some r:=⟨r,h⟩;rw[ana hh];have:=Classical.choose_spec hh 0 hn;rw[h 0 hn]at this;exact this.symm
theorem Vo{n:Nat}(hn:n≤64)(r:PV)(aeR:List Ed→Prop)(oG:∀acc,aeR acc→∃D,gq [.int .i64 n,.rs 3 (acc.map Ed.pv)]=some (.bu [.rs 1 D,.int .i64 0])∧r=.rs 1 D):∀(rem acc:List Ed)(N:Nat),rem.length<N→acc.length+rem.length≤4096→(∀l,(∀y,y∈l↔y∈acc∨y∈rem)→l.length=acc.length+rem.length→aeR l)→cR (eE bn) N ((n:Int),acc.map Ed.pv,rem.map oa,())=some r:=by
 intro rem;generalize hk:rem.length=k;induction k generalizing rem with
 |zero=>
  intro acc N hN hl hg;have:rem=[]:=ajB hk;subst this;obtain⟨N,rfl⟩:∃m,N=m+1:=⟨N-1,by omega⟩;simp only[cR];unfold eE;dsimp only;rw[BK (show(List.map oa []).isEmpty=true from rfl)];obtain⟨D,h1,h2⟩:=oG acc (hg acc (fun y=>by simp) (by simp));have e2:cZ 2 (.bu [.rs 1 D,.int .i64 0])=some [.rs 1 D,.int .i64 0]:=rfl;have e3:aP 1 (.rs 1 D)=some D:=by simp[aP]
  rw[h1,U,e2,U];simp only[ajE,ajD,e3,U,G3];rw[h2]
 |succ k ih=>
  intro acc N hN hl hg;obtain⟨N,rfl⟩:∃m,N=m+1:=⟨N-1,by omega⟩;simp only[cR];generalize cA:cR (eE bn) N=rec;unfold eE;dsimp only
  have cY:¬(rem.map oa).isEmpty=true:=by cases rem with
   |nil=>simp at hk
   |cons _ _=>simp
  rw[IN cY];refine Ff (by simp;omega) fun i hi=>?_;have ow:i<rem.length:=by simpa using hi
  obtain⟨e,he⟩:∃e,rem[i]?=some e:=⟨_,AI ow⟩;have Hf:(rem.map oa)[i]?=some (oa e):=by rw[IT,he];rfl
  have e9:(acc.map Ed.pv++[PV.agg [.int .i64 e.f,.int .i64 e.t,.int .i64 e.c]]).length*24≤af∧0<24:=by simp only[ags,OF,ajv,ajQ];unfold af;omega
  have G0:acc.map Ed.pv++[PV.agg [.int .i64 e.f,.int .i64 e.t,.int .i64 e.c]]=(acc++[e]).map Ed.pv:=by simp[Ed.pv]
  have acP:(rem.map oa).eraseIdx i=(rem.eraseIdx i).map oa:=by apply ajY;intro j;simp only[amI,IT];split<;>rfl
  have hle:(rem.eraseIdx i).length=k:=by rw[al1];simp[ow];omega
  rw[Hf,U];rw[G0]at e9;simp only[oa,ag3,aeK,acM,G3,U,G0,BK e9,acP];rw[←cA];refine ih (rem.eraseIdx i) hle (acc++[e]) N (by omega) (by simp;omega) fun l UA HX=>hg l (fun y=>?_) (by rw[HX];simp;omega);rw[UA];have cg:y∈rem↔y=e∨y∈rem.eraseIdx i:=by
   rw[List.mem_eraseIdx_iff_getElem?];constructor
   ·intro hy;obtain⟨j,hj⟩:=ajX hy;by_cases Ui:j=i
    ·subst Ui;rw[he]at hj;exact .inl (al8 hj).symm
    ·exact .inr ⟨j,Ui,hj⟩
   ·rintro(rfl|⟨j,_,hj⟩)
    ·exact ah3 he
    ·exact ah3 hj
  rw[cg];simp only[ajI,aj4];constructor
  ·rintro((h|h)|h)
   ·exact .inl h
   ·exact .inr (.inl h)
   ·exact .inr (.inr h)
  ·rintro(h|h|h)
   ·exact .inl (.inl h)
   ·exact .inl (.inr h)
   ·exact .inr h
theorem Ku.leq{E E':List Ed}(h:∀e∈E,∃e'∈E',e'.f=e.f∧e'.t=e.t∧e'.c≤e.c){s v L:Nat}(hr:Ku E s v L):∃L',L'≤L∧Ku E' s v L':=by
 rcases hr with⟨h1,h2⟩|hr
 ·exact⟨L,ajC _,.inl ⟨h1,h2⟩⟩
 ·obtain⟨L',l1,l2⟩:=hr.leq (w':=ew E') fun i j c hc=>by
   obtain⟨e',m,e1,e2,e3⟩:=h _ hc;refine⟨e'.c,e3,?_⟩;unfold ew;have:(⟨i,j,e'.c⟩:Ed)=e':=by have e1:e'.f=i:=e1;have e2:e'.t=j:=e2;rw[←e1,←e2]
   rw[this];exact m
  exact⟨L',l1,.inr l2⟩
theorem YM{fr:Bool}{l:List Fp}{M s v:Nat}{d:Int}(h:Re (mL fr l) M s v d):Re (counted fr l) M s v d:=by
 obtain⟨b1,b2,_⟩:=TC fr l;have low:∀{L},Ku (counted fr l) s v L→∃L',L'≤L∧Ku (mL fr l) s v L':=fun hr=>hr.leq fun e he=>by obtain⟨x,h1,h2⟩:=b2 e he;obtain⟨e',m,e1,e2,e3⟩:=MW h1;exact⟨e',m,e1,e2,by omega⟩
 rcases h with⟨e,h1⟩|⟨L,e,hM,h1,h2⟩
 ·refine .inl ⟨e,fun L hL=>?_⟩;obtain⟨L',_,hL'⟩:=low hL;exact h1 L' hL'
 ·refine .inr ⟨L,e,hM,h1.mem b1,fun L' hL=>?_⟩;obtain⟨L'',l1,l2⟩:=low hL;exact ajP (h2 L'' l2) l1
theorem yw{fr:Bool}{l:List Fp}{e:Ed}(h:e∈counted fr l):∃p∈l,p.ed=e:=by unfold counted at h;obtain⟨p,hp,rfl⟩:=ajJ.1 h;exact⟨p,(aka.1 hp).1,rfl⟩
theorem TD(l:List Fp)(n B:Nat)(hn:n≤64)(hl:l.length≤4096)(hB:B≤1073741824)(h:∀p∈l,p.a<n∧p.b<n∧p.c≤B)(fr:Bool):∃D:Nat→Nat→Int,(∀s v,s<n→v<n→Re (counted fr l) (B*n) s v (D s v))∧dR [.rs 4 (l.map Fp.pv),.int .i64 n,.bool fr]=some (.rs 1 (fm n D)):=by
 obtain⟨b1,b2,b3⟩:=TC fr l;have hbe:∀y∈mL fr l,y.f<n∧y.t<n∧y.c≤B:=fun y hy=>by obtain⟨p,hp,rfl⟩:=yw (b1 y hy);exact h p hp
 obtain⟨D,d1,d2⟩:=YJ (mL fr l) n B hn (by omega) hB hbe;refine⟨D,fun s v hs hv=>YM (d1 s v hs hv),?_⟩;have e0:aP 4 (.rs 4 (l.map Fp.pv))=some (l.map Fp.pv):=by simp[aP]
 simp only[dR,mF,e0,U,G3,asBool];refine cj (fun k=>((n:Int),fr,l.map Fp.pv,((l.map Fp.pv).length:Int),(k:Int),(mL fr (l.take k)).map oa,())) l.length (fun k hk rec=>?_) (fun rec=>?_) (by unfold rounds;omega) (by simp[mL])
 ·unfold j4;dsimp only;have hg:decide ((k:Int)<((l.map Fp.pv).length:Int))=true:=by simp;omega
  obtain⟨p,hp⟩:∃p,l[k]?=some p:=⟨_,AI hk⟩;have Hf:(l.map Fp.pv)[k]?=some p.pv:=by rw[IT,hp];rfl
  have htk:l.take (k+1)=l.take k++[p]:=by rw[amw,hp];rfl
  have hr7:(bif fr then(asBool (cell p.pv 3)).bind fun b6=>some !b6 else some false)=some (fr&& !p.free):=by rw[fp3];cases fr<;>rfl
  obtain⟨g1,g2⟩:=abD p.a p.b (mL fr (l.take k));rw[BK hg,aW,Hf,U,hr7,U,ag (by omega),htk,I2];unfold TA;by_cases hf:(fr&& !p.free)=true
  ·rw[BK hf,BK hf]
  ·rw[IN hf,IN hf];simp only[fp0,fp1,fp2,G3,U,g1,g2];cases hb:BE p.a p.b (mL fr (l.take k))with
   |none=>simp only[amh,ajT,cond_true,U,aaV];rw[show(p.c:Int)=((p.ed.c:Nat):Int)from rfl,show(p.a:Int)=((p.ed.f:Nat):Int)from rfl,show(p.b:Int)=((p.ed.t:Nat):Int)from rfl,acO]
   |some x=>
    simp only[Option.isSome_some,ajx,cond_false,U,akG];by_cases hx:p.c<x
    ·have hd:decide ((p.c:Int)<(x:Int))=true:=by simp;omega
     simp only[hd,aaV,BK hx];rw[show(p.c:Int)=((p.ed.c:Nat):Int)from rfl,show(p.a:Int)=((p.ed.f:Nat):Int)from rfl,show(p.b:Int)=((p.ed.t:Nat):Int)from rfl,acO]
    ·have hd:decide ((p.c:Int)<(x:Int))=false:=by simp;omega
     simp only[hd,By,abG,IN hx]
 ·unfold j4;dsimp only;have UA:((mL fr (l.take l.length)).map oa).length≤maxLen:=by
   rw[akh,OF];have:(4096:Nat)≤maxLen:=by decide
   omega
  have e9:(0:Int)≤0∧0≤((((mL fr (l.take l.length)).map oa).length:Nat):Int)∧((((mL fr (l.take l.length)).map oa).length:Nat):Int).toNat*24≤af∧0<24∧0<3:=by refine⟨by omega,by omega,?_,by omega,by omega⟩;rw[ajw,akh,OF];unfold af;omega
  rw[IN (by simp),BK UA,BK e9,akh,mi];have hp:=Vo hn (.rs 1 (fm n D)) (fun acc=>(∀y,y∈mL fr l↔y∈acc)∧acc.length≤4096) (fun acc⟨h1,h2⟩=>⟨_,YK (mL fr l) acc n B hn h2 hB hbe h1 d1,rfl⟩) (mL fr l) [] rounds (by unfold rounds;omega) (by simp;omega) (fun l' h1 h2=>⟨fun y=>by rw[h1];simp,by rw[h2];simp;omega⟩);exact hp
abbrev Mx:=Nat→Nat→Nat
def KB(d:Mx)(i j x:Nat):Mx:=fun a b=>if a=i∧b=j then x else d a b
def dj(k i:Nat)(d:Mx):Nat→Mx
 |0=>d
 |j+1=>KB (dj k i d j) i j (min (dj k i d j i j) (dj k i d j i k+dj k i d j k j))
def di(n k:Nat)(d:Mx):Nat→Mx
 |0=>d
 |i+1=>dj k i (di n k d i) n
def dk(n:Nat)(d:Mx):Nat→Mx
 |0=>d
 |k+1=>di n k (dk n d k) n
structure Vp(w:Nat→Nat→Nat→Prop)(inf n k i j:Nat)(d:Mx):Prop where
 fw:Fw w inf n d
 mY:∀a b,a<n→b<n→sT w k a b (d a b)
 new:∀a b,a<n→b<n→(a<i∨(a=i∧b<j))→sT w (k+1) a b (d a b)
variable {w:Nat→Nat→Nat→Prop} {inf n:Nat}
theorem sT.le{k i j x y:Nat}(h:sT w k i j x)(hy:y≤x):sT w k i j y:=fun L hL=>ajP hy (h L hL)
theorem Vp.cell{k i j:Nat}{d:Mx}(h:Vp w inf n k i j d)(hi:i<n)(hj:j<n)(hk:k<n):Vp w inf n k i (j+1) (KB d i j (min (d i j) (d i k+d k j))):=by
 obtain⟨h1,h2,h3⟩:=aaL h.fw hi hj hk (x:=min (d i j) (d i k+d k j)) rfl (d':=KB d i j (min (d i j) (d i k+d k j))) (fun a b=>rfl);refine⟨h1,fun a b ha hb=>(h.mY a b ha hb).le (h2 a b),fun a b ha hb hd=>?_⟩;by_cases e:a=i∧b=j
 ·obtain⟨rfl,rfl⟩:=e;exact h3 (h.mY _ _ ha hk) (h.mY _ _ hk hb) (h.mY _ _ ha hb)
 ·exact(h.new a b ha hb (by omega)).le (h2 a b)
theorem Vp.row{k i:Nat}{d:Mx}(h:Vp w inf n k i 0 d)(hi:i<n)(hk:k<n):∀j,j≤n→Vp w inf n k i j (dj k i d j)
 |0,_=>h
 |j+1,hj=>(Vp.row h hi hk j (by omega)).cell hi (by omega) hk
theorem Vp.rows{k:Nat}{d:Mx}(h:Vp w inf n k 0 0 d)(hk:k<n):∀i,i≤n→Vp w inf n k i 0 (di n k d i)
 |0,_=>h
 |i+1,hi=>by have:=(Vp.rows h hk i (by omega)).row (by omega) hk n (ajC _);exact⟨this.fw,this.mY,fun a b ha hb hd=>this.new a b ha hb (by omega)⟩
structure CA(w:Nat→Nat→Nat→Prop)(inf n k:Nat)(d:Mx):Prop where
 fw:Fw w inf n d
 low:∀a b,a<n→b<n→sT w k a b (d a b)
theorem CA.rounds{d:Mx}(h:CA w inf n 0 d):∀k,k≤n→CA w inf n k (dk n d k)
 |0,_=>h
 |k+1,hk=>by have ih:=CA.rounds h k (by omega);have:=Vp.rows (k:=k) ⟨ih.fw,ih.low,fun a b ha hb hd=>by omega⟩ (by omega) n (ajC _);exact⟨this.fw,fun a b ha hb=>this.new a b ha hb (.inl ha)⟩
def TE(inf:Nat):Mx:=fun _ _=>inf
def lay(d:Mx)(e:Ed):Mx:=KB d e.f e.t (min (d e.f e.t) e.c)
def start(inf:Nat)(E:List Ed):Mx:=E.foldl lay (TE inf)
theorem GR(inf:Nat)(E:List Ed)(e:Ed):start inf (E++[e])=lay (start inf E) e:=by simp[start]
theorem YN(E:List Ed):(∀i j,start inf E i j≤inf)∧(∀i j,start inf E i j<inf→(⟨i,j,start inf E i j⟩:Ed)∈E)∧∀e∈E,start inf E e.f e.t≤e.c:=by
 rw[←alE E];induction E.reverse with
 |nil=>exact⟨fun i j=>ajC _,fun i j h=>by simp[start,TE]at h,fun e h=>by cases h⟩
 |cons e l ih=>
  rw[alb,GR];obtain⟨i1,i2,i3⟩:=ih;have hl:∀a b,lay (start inf l.reverse) e a b=if a=e.f∧b=e.t then min (start inf l.reverse e.f e.t) e.c else start inf l.reverse a b:=fun a b=>rfl;refine⟨fun a b=>?_,fun a b h=>?_,fun z hz=>?_⟩
  ·rw[hl];split
   ·have:=i1 e.f e.t;omega
   ·exact i1 a b
  ·rw[hl]at h⊢;split
   ·rename_i hk;rw[BK hk]at h;by_cases hm:start inf l.reverse e.f e.t≤e.c
    ·rw[show min (start inf l.reverse e.f e.t) e.c=start inf l.reverse e.f e.t by omega]at h⊢;rw[hk.1,hk.2];exact alF _ (i2 _ _ h)
    ·rw[show min (start inf l.reverse e.f e.t) e.c=e.c by omega,hk.1,hk.2];simp
   ·rename_i hk;rw[IN hk]at h;exact alF _ (i2 a b h)
  ·rw[hl];rcases ajI.1 hz with hz|hz
   ·have:=i3 z hz;split
    ·rename_i hk;rw[hk.1,hk.2]at this;omega
    ·exact this
   ·simp at hz;subst hz;rw[BK ⟨rfl,rfl⟩];omega
theorem GS(E:List Ed):CA (ew E) inf n 0 (start inf E):=by obtain⟨h1,h2,h3⟩:=YN (inf:=inf) E;exact⟨⟨fun i j _ _=>h1 i j,fun i j _ _ h=>.GO (h2 i j h)⟩,fun a b _ _ L hL=>h3 ⟨a,b,L⟩ hL⟩
theorem aaQ{E:List Ed}{M:Nat}(hE:∀y∈E,y.f<n∧y.t<n)(hM:M<inf){i j:Nat}(hi:i<n)(hj:j<n)(OE:i≠j){D:Int}(hD:Re E M i j D):(D= -1∧dk n (start inf E) n i j=inf)∨(D=(dk n (start inf E) n i j:Int)∧dk n (start inf E) n i j≤M):=by
 have hd:=(GS (n:=n) (inf:=inf) E).rounds n (ajC _);have rch:∀L,Ku E i j L↔lI (ew E) i j L:=fun L=>⟨fun h=>by rcases h with⟨h,_⟩|h;exact absurd h.symm OE;exact h,.inr⟩;have hs:=aaM (w:=ew E) (fun a b c h=>(hE _ h).1) hd.fw hi hj (hd.low i j hi hj) (fun L T6 hw=>by
  rcases hD with⟨_,h⟩|⟨L',_,hle,h1,h2⟩
  ·exact absurd ((rch L).2 hw) (h L)
  ·have:=T6 L' ((rch L').1 h1);omega)
 rcases hD with⟨e,h⟩|⟨L',e,hle,h1,h2⟩
 ·left;refine⟨e,?_⟩;have ajq:=hd.fw.top i j hi hj;by_cases cd:dk n (start inf E) n i j<inf
  ·exact absurd ((rch _).2 (hd.fw.real i j hi hj cd)) (h _)
  ·omega
 ·right;have:(if dk n (start inf E) n i j<inf then some (dk n (start inf E) n i j)else none)=some L':=hs.unique ⟨(rch L').1 h1,fun L'' hw=>h2 L'' ((rch L'').2 hw)⟩;split at this
  ·simp only[AT]at this;exact⟨by rw[e,this],by omega⟩
  ·cases this
def BF(n:Nat)(r:Nat→Nat):List PV:=(List.range n).map fun j=>.int .i64 (r j)
def qL(n:Nat)(d:Mx):List PV:=(List.range n).map fun i=>.qV 1 (BF n (d i))
theorem vb(n:Nat)(d:Mx):(qL n d).length=n:=by simp[qL]
theorem sU(n:Nat)(r:Nat→Nat):(BF n r).length=n:=by simp[BF]
theorem vc{n i:Nat}(d:Mx)(h:i<n):(qL n d)[i]?=some (.qV 1 (BF n (d i))):=by simp[qL,h]
theorem vd{n j:Nat}(r:Nat→Nat)(h:j<n):(BF n r)[j]?=some (.int .i64 (r j)):=by simp[BF,h]
theorem MY{n i j:Nat}(d:Mx)(x:Nat)(hi:i<n)(hj:j<n):(qL n d).set i (.qV 1 ((BF n (d i)).set j (.int .i64 x)))=qL n (KB d i j x):=by
 apply ajY;intro a;rw[aj6];by_cases e:i=a
 ·subst e;rw[BK rfl,BK (by rw[vb];exact hi),vc _ hi];congr 2;apply ajY;intro b;rw[aj6];by_cases e:j=b
  ·subst e;rw[BK rfl,BK (by rw[sU];exact hj),vd _ hj];simp[KB]
  ·rw[IN e];by_cases hb:b<n
   ·rw[vd _ hb,vd _ hb];simp[KB,Ne.symm e]
   ·rw[ajr (by rw[sU];omega),ajr (by rw[sU];omega)]
 ·rw[IN e];by_cases ha:a<n
  ·rw[vc _ ha,vc _ ha];congr 2;unfold BF;apply aj9;intro b _;simp[KB,Ne.symm e]
  ·rw[ajr (by rw[vb];omega),ajr (by rw[vb];omega)]
theorem asR(es:List PV):fh 1 (cell (.qV 1 es) 0)=some es:=rfl
theorem cI(x:Int):cell (.int .i64 x) 0=.int .i64 x:=rfl
theorem aeS(e p:PV):setRow 1 e 0 p=p:=rfl
theorem aeT(q p:PV):setCells 1 q 0 1 p=p:=rfl
theorem aaR(a b:Nat)(hb:b≤4398046511104):(if IntKind.i64.wrap (b:Int)<(a:Int)then IntKind.i64.wrap (b:Int)else(a:Int))=((min a b:Nat):Int):=by rw[bE (by omega) (by omega)];split<;>omega
theorem acQ(jQ:Int×Int×Int×List PV×Unit→Option PV)(n k i:Nat)(d:Mx)(hn:n≤64)(hk:k<n)(hi:i<n)(hd:∀j,j≤n→∀a b,a<n→b<n→dj k i d j a b≤1099511627776):bn.run (ke jQ) ((n:Int),(k:Int),(i:Int),0,qL n d,())=jQ ((n:Int),(k:Int),IntKind.i64.wrap ((i:Int)+1),qL n (dj k i d n),()):=by
 refine cj (fun j=>((n:Int),(k:Int),(i:Int),(j:Int),qL n (dj k i d j),())) n (fun j hj rec=>?_) (fun rec=>?_) (by unfold rounds;omega) rfl
 ·unfold ke;dsimp only;have hg:decide ((j:Int)<(n:Int))=true:=by simp;omega
  have ii:ae (i:Int) (qL n (dj k i d j)).length:=Ew (by rw[vb];exact hi);have ik:ae (k:Int) (qL n (dj k i d j)).length:=Ew (by rw[vb];exact hk);have ji:ae (j:Int) (BF n (dj k i d j i)).length:=Ew (by rw[sU];exact hj);have ki:ae (k:Int) (BF n (dj k i d j i)).length:=Ew (by rw[sU];exact hk);have jk:ae (j:Int) (BF n (dj k i d j k)).length:=Ew (by rw[sU];exact hj);have b1:=hd j (by omega) i k hi hk;have b2:=hd j (by omega) k j hk hj;have hs:(((dj k i d j i k:Nat):Int)+((dj k i d j k j:Nat):Int))=((dj k i d j i k+dj k i d j k j:Nat):Int):=by omega
  simp only[hg,aaV,BK ii,BK ik,ajw,vc _ hi,vc _ hk,U,asR,BK ji,BK ki,BK jk,vd _ hj,vd _ hk,cI,G3,aeS,aeT,hs,aaR _ _ (show dj k i d j i k+dj k i d j k j≤4398046511104 by omega),MY _ _ hi hj,ag (show j<9223372036854775807 by omega)];rfl
 ·unfold ke;dsimp only;rw[IN (by simp)]
theorem acR(I3:Int×Int×List PV×Unit→Option PV)(n k:Nat)(d:Mx)(hn:n≤64)(hk:k<n)(hd:∀i,i<n→∀j,j≤n→∀a b,a<n→b<n→dj k i (di n k d i) j a b≤1099511627776):bn.run (kg bn I3) ((n:Int),(k:Int),0,qL n d,())=I3 ((n:Int),IntKind.i64.wrap ((k:Int)+1),qL n (di n k d n),()):=by
 refine cj (fun i=>((n:Int),(k:Int),(i:Int),qL n (di n k d i),())) n (fun i hi rec=>?_) (fun rec=>?_) (by unfold rounds;omega) rfl
 ·unfold kg;dsimp only;have hg:decide ((i:Int)<(n:Int))=true:=by simp;omega
  rw[BK hg,acQ rec n k i _ hn hk hi (hd i hi),ag (by omega)];rfl
 ·unfold kg;dsimp only;rw[IN (by simp)]
theorem acS(n:Nat)(d:Mx)(hn:n≤64)(hd:∀k,k<n→∀i,i<n→∀j,j≤n→∀a b,a<n→b<n→dj k i (di n k (dk n d k) i) j a b≤1099511627776):bn.run (kh bn) ((n:Int),0,qL n d,())=some (.rs 1 ((qL n (dk n d n)).map PV.strip)):=by
 refine cj (fun k=>((n:Int),(k:Int),qL n (dk n d k),())) n (fun k hk rec=>?_) (fun rec=>?_) (by unfold rounds;omega) rfl
 ·unfold kh;dsimp only;have hg:decide ((k:Int)<(n:Int))=true:=by simp;omega
  rw[BK hg,acR rec n k _ hn hk (hd k hk),ag (by omega)];rfl
 ·unfold kh;dsimp only;rw[IN (by simp)]
abbrev BG:Nat:=1099511627776
theorem Vq(n:Nat):List.replicate n (PV.qV 1 (List.replicate n (PV.int .i64 1099511627776)))=qL n (TE BG):=by
 unfold qL BF TE;apply ajY;intro i;by_cases hi:i<n
 ·have:(List.range n).map (fun j=>PV.int .i64 ((BG:Nat):Int))=List.replicate n (PV.int .i64 1099511627776):=by
   apply ajY;intro j;by_cases hj:j<n
   ·simp[hj,aj5]
   ·rw[ajr (by simp;omega),ajr (by simp;omega)]
  simp only[aj5,BK hi,IT,akW hi,ah5];rw[←this]
 ·rw[ajr (by simp;omega),ajr (by simp;omega)]
theorem Vr(n:Nat)(d:Mx):(qL n d).map PV.strip=fm n fun i j=>((d i j:Nat):Int):=by unfold qL fm BF va;rw[alQ];rfl
theorem YO(a b:Nat):(if(b:Int)<(a:Int)then(b:Int)else(a:Int))=((min a b:Nat):Int):=by split<;>omega
theorem KC(fr:Bool)(l:List Fp)(p:Fp):counted fr (l++[p])=if(fr&& !p.free)=true then counted fr l else counted fr l++[p.ed]:=by
 unfold counted;rw[alw,ajV];cases hb:(fr&& !p.free)with
 |true=>simp only[akc,hb,ajx,By,abG,alx,akv,aaV,aj2]
 |false=>simp only[akc,hb,ajT,By,abG,alx,akv,ajy,aaV]
theorem BH(l:List Fp)(n:Nat)(hn:n≤64)(hl:l.length≤4096)(h:∀p∈l,p.a<n∧p.b<n)(fr:Bool):fU [.rs 4 (l.map Fp.pv),.int .i64 n,.bool fr]=some (.rs 1 (fm n fun i j=>((dk n (start BG (counted fr l)) n i j:Nat):Int))):=by
 have e0:aP 4 (.rs 4 (l.map Fp.pv))=some (l.map Fp.pv):=by simp[aP]
 have hE:∀y∈counted fr l,y.f<n∧y.t<n:=fun y hy=>by obtain⟨p,hp,rfl⟩:=yw hy;exact h p hp
 simp only[fU,so,e0,U,G3,asBool];refine cj (fun i=>(l.map Fp.pv,(n:Int),fr,(i:Int),List.replicate i (PV.qV 1 (List.replicate n (PV.int .i64 1099511627776))),())) n (fun i hi rec=>?_) (fun rec=>?_) (by unfold rounds;omega) rfl
 ·unfold ob;dsimp only;have hg:decide ((i:Int)<(n:Int))=true:=by simp;omega
  rw[BK hg];refine cj (fun j=>(l.map Fp.pv,(n:Int),fr,(i:Int),(j:Int),List.replicate i (PV.qV 1 (List.replicate n (PV.int .i64 1099511627776))),List.replicate j (PV.int .i64 1099511627776),())) n (fun j hj fu=>?_) (fun fu=>?_) (by unfold rounds;omega) rfl
  ·unfold oc;dsimp only;have hg:decide ((j:Int)<(n:Int))=true:=by simp;omega
   have G0:List.replicate j (PV.int .i64 1099511627776)++[PV.int .i64 1099511627776]=List.replicate (j+1) (PV.int .i64 1099511627776):=(amT ..).symm;rw[BK hg];simp only[G0,ak2];rw[BK (by unfold af;omega),ag (by omega)]
  ·unfold oc;dsimp only;have G0:List.replicate i (PV.qV 1 (List.replicate n (PV.int .i64 1099511627776)))++[PV.qV 1 (List.replicate n (PV.int .i64 1099511627776))]=List.replicate (i+1) (PV.qV 1 (List.replicate n (PV.int .i64 1099511627776))):=(amT ..).symm;rw[IN (by simp)];simp only[G0,ak2];rw[BK (by unfold af;omega),ag (by omega)]
 ·unfold ob;dsimp only;rw[IN (by simp),Vq];refine cj (fun k=>(l.map Fp.pv,(n:Int),fr,(k:Int),qL n (start BG (counted fr (l.take k))),())) l.length (fun k hk fu=>?_) (fun fu=>?_) (by unfold rounds;omega) rfl
  ·unfold od;dsimp only;have hg:decide ((k:Int)<((l.map Fp.pv).length:Int))=true:=by simp;omega
   obtain⟨p,hp⟩:∃p,l[k]?=some p:=⟨_,AI hk⟩;have Hf:(l.map Fp.pv)[k]?=some p.pv:=by rw[IT,hp];rfl
   have htk:l.take (k+1)=l.take k++[p]:=by rw[amw,hp];rfl
   obtain⟨pa,pb⟩:=h p (ah3 hp);have hr:(bif p.free then some true else some !fr)=some (!(fr&& !p.free)):=by cases p.free<;>cases fr<;>rfl
   rw[BK hg,aW,Hf,U,htk,KC];simp only[fp3,asBool,U,hr];cases hb:(fr&& !p.free)with
   |true=>simp only[ajx,By,abG,aaV,ag (show k<9223372036854775807 by omega)]
   |false=>
    obtain⟨d,hd⟩:∃d,d=start BG (counted fr (l.take k)):=⟨_,rfl⟩;have ia:ae (p.a:Int) (qL n d).length:=Ew (by rw[vb];exact pa);have ib:ae (p.b:Int) (BF n (d p.a)).length:=Ew (by rw[sU];exact pb);have ov:qL n (start BG (counted fr (l.take k)++[p.ed]))=qL n (KB d p.a p.b (min (d p.a p.b) p.c)):=by rw[GR,←hd];rfl
    simp only[ajT,aaV,By,abG,ov,←hd,fp0,fp1,fp2,G3,U,BK ia,ajw,vc _ pa,asR,BK ib,vd _ pb,cI,aeS,aeT,YO,MY _ _ pa pb,ag (show k<9223372036854775807 by omega)]
  ·unfold od;dsimp only;rw[IN (by simp),akh,←Vr];have aeU:=GS (n:=n) (inf:=BG) (counted fr l);exact acS n _ hn fun k hk i hi j hj a b ha hb=>by have ih:=aeU.rounds k (by omega);have:=(Vp.rows (k:=k) ⟨ih.fw,ih.low,fun a b ha hb hd=>by omega⟩ hk i (by omega)).row hi hk j hj;exact this.fw.top a b ha hb
def Zl(i k:Nat)(s:Int)(b:Bool):PV:=.agg [.int .i64 i,.int .i64 k,.int .i64 s,.bool b]
def D6(w f:Int)(i k:Nat):List PV:=if i=k∨w>14400 then[]else Zl i k w (f==w)::(if f>w∧f≤14400 then[Zl i k f true]else[])
def yy(n:Nat)(it:Nat→Nat→List PV)(i:Nat):List PV:=(List.range n).flatMap (it i)
def AH(n:Nat)(it:Nat→Nat→List PV)(m:Nat):List PV:=(List.range m).flatMap (yy n it)
theorem CU(n:Nat)(it:Nat→Nat→List PV)(i:Nat):yy (n+1) it i=yy n it i++it i n:=by simp[yy,alK,alI]
theorem CV(n:Nat)(it:Nat→Nat→List PV)(m:Nat):AH n it (m+1)=AH n it m++yy n it m:=by simp[AH,alK,alI]
theorem BI{it:Nat→Nat→List PV}(h:∀i k,(it i k).length≤2)(i:Nat):∀k,(yy k it i).length≤2*k
 |0=>by simp[yy]
 |k+1=>by rw[CU,ags];have:=BI h i k;have:=h i k;omega
theorem Bw{it:Nat→Nat→List PV}(h:∀i k,(it i k).length≤2)(n:Nat):∀m,(AH n it m).length≤2*n*m
 |0=>by simp[AH]
 |m+1=>by rw[CV,ags,Nat.mul_succ];have:=Bw h n m;have:=BI h m n;omega
theorem Km(w f:Int)(i k:Nat):(D6 w f i k).length≤2:=by
 unfold D6;split
 ·simp
 ·split<;>simp
theorem I4{n k:Nat}(D:Nat→Int)(h:k<n):(va n D)[k]?=some (.int .i64 (D k)):=by simp[va,h]
theorem CW{n i:Nat}(D:Nat→Nat→Int)(h:i<n):(fm n D)[i]?=some (.rs 1 (va n (D i))):=by simp[fm,h]
theorem acT(es:List PV):aP 1 (cell (.rs 1 es) 0)=some es:=by show aP 1 (.rs 1 es)=some es;simp[aP]
theorem vi{a:List PV}(h:a.length≤16384):a.length*32≤af∧0<32:=by unfold af;omega
theorem Rf(CX:acU→Option PV)(n i:Nat)(W F:Nat→Nat→Int)(hn:n≤64)(hi:i<n)(acc:List PV)(ahU:acc.length≤8192):bn.run (my bn CX) ((n:Int),fm n W,fm n F,(i:Int),0,acc,())=CX ((n:Int),fm n W,fm n F,IntKind.i64.wrap ((i:Int)+1),acc++yy n (fun i k=>D6 (W i k) (F i k) i k) i,()):=by
 refine cj (fun k=>((n:Int),fm n W,fm n F,(i:Int),(k:Int),acc++yy k (fun i k=>D6 (W i k) (F i k) i k) i,())) n (fun k hk rec=>?_) (fun rec=>?_) (by unfold rounds;omega) (by simp[yy])
 ·unfold my;dsimp only;have hg:decide ((k:Int)<(n:Int))=true:=by simp;omega
  rw[CU];have hlen:=BI (it:=fun i k=>D6 (W i k) (F i k) i k) (fun i k=>Km _ _ i k) i k;generalize hA:acc++yy k (fun i k=>D6 (W i k) (F i k) i k) i=A;have hAl:A.length≤8192+128:=by rw[←hA,ags];omega
  rw[←ajN,hA];simp only[hg,aaV,aW,CW _ hi,U,acT,I4 _ hk,cI,G3,ag (show k<9223372036854775807 by omega)];generalize W i k=w;generalize F i k=f;by_cases D3:i=k
  ·have hb:((i:Int)==(k:Int))=true:=by simp[D3]
   have DY:D6 w f i k=[]:=BK (.inl D3);simp only[hb,cond_true,U,aaV,DY,aj2]
  ·have hb:((i:Int)==(k:Int))=false:=by rw[akm];omega
   simp only[hb,cond_false,U];by_cases hw:w>14400
   ·have DY:D6 w f i k=[]:=BK (.inr hw);simp only[hw,ajW,aaV,DY,aj2]
   ·have Zj:(A++[PV.agg [.int .i64 i,.int .i64 k,.int .i64 w,.bool (f==w)]]).length*32≤af∧0<32:=vi (by simp;omega);simp only[hw,ajU,By,abG,BK Zj];by_cases hf:f>w
    ·by_cases hf2:f≤14400
     ·have SC:(A++[PV.agg [.int .i64 i,.int .i64 k,.int .i64 w,.bool (f==w)]]++[PV.agg [.int .i64 i,.int .i64 k,.int .i64 f,.bool true]]).length*32≤af∧0<32:=vi (by simp;omega);have DY:D6 w f i k=[Zl i k w (f==w),Zl i k f true]:=by unfold D6;rw[IN (by omega),BK ⟨hf,hf2⟩]
      simp only[hf,hf2,ajW,cond_true,U,aaV,BK SC,DY];rw[ajN];rfl
     ·have DY:D6 w f i k=[Zl i k w (f==w)]:=by unfold D6;rw[IN (by omega),IN (by omega)]
      simp only[hf,hf2,ajW,ajU,cond_true,U,By,abG,DY];rfl
    ·have DY:D6 w f i k=[Zl i k w (f==w)]:=by unfold D6;rw[IN (by omega),IN (by omega)]
     simp only[hf,ajU,cond_false,U,By,abG,DY];rfl
 ·unfold my;dsimp only;rw[IN (by simp)]
theorem MZ(n:Nat)(W F:Nat→Nat→Int)(hn:n≤64):bn.run (mz bn) ((n:Int),fm n W,fm n F,0,[],())=some (.rs 4 (AH n (fun i k=>D6 (W i k) (F i k) i k) n)):=by
 refine cj (fun i=>((n:Int),fm n W,fm n F,(i:Int),AH n (fun i k=>D6 (W i k) (F i k) i k) i,())) n (fun i hi rec=>?_) (fun rec=>?_) (by unfold rounds;omega) rfl
 ·unfold mz;dsimp only;have hg:decide ((i:Int)<(n:Int))=true:=by simp;omega
  have hlen:=Bw (it:=fun i k=>D6 (W i k) (F i k) i k) (fun i k=>Km _ _ i k) n i;have hb:2*n*i≤2*64*64:=alO (by omega) (by omega);rw[BK hg,Rf rec n i W F hn hi _ (by omega),CV,ag (by omega)]
 ·unfold mz;dsimp only;rw[IN (by simp)]
def td(n:Nat)(l:List Fp)(fr:Bool)(i j:Nat):Int:=((dk n (start BG (counted fr l)) n i j:Nat):Int)
theorem Rg(l:List Fp)(n:Nat)(hn:n≤64)(hl:l.length≤4096)(h:∀p∈l,p.a<n∧p.b<n):gk [.rs 4 (l.map Fp.pv),.int .i64 n]=some (.rs 4 (AH n (fun i k=>D6 (td n l false i k) (td n l true i k) i k) n)):=by
 have e0:aP 4 (.rs 4 (l.map Fp.pv))=some (l.map Fp.pv):=by simp[aP]
 have e1:∀es,aP 1 (.rs 1 es)=some es:=fun es=>by simp[aP]
 simp only[gk,vH,e0,U,G3,BH l n hn hl h false,BH l n hn hl h true,e1];exact MZ n (td n l false) (td n l true) hn
def Oc(w f:Int)(i k:Nat):List PV:=if i=k then[]else(if 0<w∧w≤14400 then[Zl i k w (f==w)]else[])++(if f≠w∧0<f∧f≤14400 then[Zl i k f true]else[])
theorem lI.pos{w:Nat→Nat→Nat→Prop}(h:∀i j c,w i j c→1≤c){i j L:Nat}(hw:lI w i j L):1≤L:=by
 cases hw with
 |GO e=>exact h _ _ _ e
 |snoc _ e=>have:=h _ _ _ e;omega
def aaS(M:Nat)(d w:Int):Prop:=(d= -1∧w=(BG:Int))∨(d=w∧1≤w∧w≤M)
theorem aeV{M:Nat}(hM:M<BG){d0 d1 w f:Int}(h0:aaS M d0 w)(h1:aaS M d1 f)(Zb:d1≠-1→d0≠-1∧d0≤d1)(i k:Nat):Oc d0 d1 i k=D6 w f i k:=by
 unfold Oc D6;by_cases D3:i=k
 ·rw[BK D3,BK (.inl D3)]
 ·rw[IN D3];have hM:(M:Int)<1099511627776:=by have:M<1099511627776:=hM;omega
  have ahV:((BG:Nat):Int)=1099511627776:=rfl;rw[aaS,ahV]at h0 h1;rcases h0 with⟨e0,w0⟩|⟨e0,w1,w2⟩
  ·have e1:d1= -1:=by
    by_cases h:d1= -1
    ·exact h
    ·exact absurd e0 (Zb h).1
   rw[IN (by omega),IN (by omega),BK (.inr (by omega))];rfl
  ·subst e0;rcases h1 with⟨e1,f0⟩|⟨e1,f1,f2⟩
   ·by_cases hw:d0≤14400
    ·have b1:(d1==d0)=false:=by rw[akm];omega
     have b2:(f==d0)=false:=by rw[akm];omega
     rw[BK ⟨by omega,hw⟩,IN (by omega),IN (by omega),IN (by omega),b1,b2];rfl
    ·rw[IN (by omega),IN (by omega),BK (.inr (by omega))];rfl
   ·subst e1;have hle:=(Zb (by omega)).2;by_cases hw:d0≤14400
    ·rw[BK ⟨by omega,hw⟩,IN (show¬(i=k∨d0>14400) by omega)];by_cases hf:d1>d0∧d1≤14400
     ·rw[BK hf,BK ⟨by omega,by omega,by omega⟩];rfl
     ·rw[IN hf,IN (by omega)];rfl
    ·rw[IN (by omega),IN (by omega),BK (.inr (by omega))];rfl
theorem TF{l:List Fp}{n B:Nat}(hn:n≤64)(hB:B≤1073741824)(h:∀p∈l,p.a<n∧p.b<n∧1≤p.c∧p.c≤B)(fr:Bool){i k:Nat}(hi:i<n)(hk:k<n)(D3:i≠k){d:Int}(hd:Re (counted fr l) (B*n) i k d):aaS (B*n) d (td n l fr i k):=by
 have hE:∀y∈counted fr l,y.f<n∧y.t<n∧1≤y.c:=fun y hy=>by obtain⟨p,hp,rfl⟩:=yw hy;obtain⟨a,b,c,_⟩:=h p hp;exact⟨a,b,c⟩
 have hM:B*n<BG:=by have:B*n≤1073741824*64:=alO hB hn;show B*n<1099511627776;omega
 rcases aaQ (inf:=BG) (fun y hy=>⟨(hE y hy).1,(hE y hy).2.1⟩) hM hi hk D3 hd with⟨e1,e2⟩|⟨e1,e2⟩
 ·exact .inl ⟨e1,by unfold td;rw[e2]⟩
 ·refine .inr ⟨e1,?_,by unfold td;omega⟩;rcases hd with⟨e,_⟩|⟨L,e,_,hr,_⟩
  ·omega
  ·have:1≤L:=by
    rcases hr with⟨h,_⟩|hw
    ·exact absurd h.symm D3
    ·exact hw.pos fun a b c hc=>(hE _ hc).2.2
   unfold td;omega
theorem aaT{l:List Fp}{M i k:Nat}{d0 d1:Int}(h0:Re (counted false l) M i k d0)(h1:Re (counted true l) M i k d1)(cY:d1≠-1):d0≠-1∧d0≤d1:=by
 have sub:∀y,y∈counted true l→y∈counted false l:=fun y hy=>by unfold counted at hy⊢;obtain⟨p,hp,rfl⟩:=ajJ.1 hy;exact ajJ.2 ⟨p,aka.2 ⟨(aka.1 hp).1,rfl⟩,rfl⟩
 rcases h1 with⟨e,_⟩|⟨L1,e1,_,r1,_⟩
 ·exact absurd e cY
 ·have r:=r1.mem sub;rcases h0 with⟨_,h⟩|⟨L0,e0,_,_,m0⟩
  ·exact absurd r (h L1)
  ·have:=m0 L1 r;omega
theorem TG(w f:Int)(i k:Nat):(Oc w f i k).length≤2:=by
 unfold Oc;split
 ·simp
 ·rw[ags];split<;>split<;>simp
theorem Vs(CX:TY8→Option PV)(n i:Nat)(W F:Nat→Nat→Int)(hn:n≤64)(hi:i<n)(acc:List PV)(ahU:acc.length≤8192):bn.run (iI bn CX) (fm n W,fm n F,(i:Int),(n:Int),(i:Int),va n (W i),(n:Int),0,acc,())=CX (fm n W,fm n F,(n:Int),IntKind.i64.wrap ((i:Int)+1),acc++yy n (fun i k=>Oc (W i k) (F i k) i k) i,()):=by
 refine cj (fun k=>(fm n W,fm n F,(i:Int),(n:Int),(i:Int),va n (W i),(n:Int),(k:Int),acc++yy k (fun i k=>Oc (W i k) (F i k) i k) i,())) n (fun k hk rec=>?_) (fun rec=>?_) (by unfold rounds;omega) (by simp[yy])
 ·unfold iI;dsimp only;have hg:decide ((k:Int)<(n:Int))=true:=by simp;omega
  rw[CU];have hlen:=BI (it:=fun i k=>Oc (W i k) (F i k) i k) (fun i k=>TG _ _ i k) i k;generalize hA:acc++yy k (fun i k=>Oc (W i k) (F i k) i k) i=A;have hAl:A.length≤8192+128:=by rw[←hA,ags];omega
  rw[←ajN,hA];simp only[hg,aaV,aW,I4 _ hk,CW _ hi,U,acT,cI,G3,ag (show k<9223372036854775807 by omega)];generalize W i k=w;generalize F i k=f;by_cases D3:i=k
  ·have hb:((i:Int)==(k:Int))=true:=by simp[D3]
   have DY:Oc w f i k=[]:=BK D3;simp only[hb,aaV,DY,aj2]
  ·have hb:((i:Int)==(k:Int))=false:=by rw[akm];omega
   have hand:∀x:Int,(bif decide (x>0)then some (decide (x≤14400))else some false)=some (decide (0<x∧x≤14400)):=fun x=>by
    by_cases h1:x>0
    ·have:(0<x∧x≤14400)↔x≤14400:=⟨fun h=>h.2,fun h=>⟨h1,h⟩⟩;rw[akE h1,cond_true,decide_eq_decide.2 this.symm]
    ·have:¬(0<x∧x≤14400):=fun h=>h1 h.1;rw[akd h1,cond_false,akd this]
   have Zj:(A++[PV.agg [.int .i64 i,.int .i64 k,.int .i64 w,.bool (f==w)]]).length*32≤af∧0<32:=vi (by simp;omega);have SC:(A++[PV.agg [.int .i64 i,.int .i64 k,.int .i64 w,.bool (f==w)]]++[PV.agg [.int .i64 i,.int .i64 k,.int .i64 f,.bool true]]).length*32≤af∧0<32:=vi (by simp;omega);have VL:(A++[PV.agg [.int .i64 i,.int .i64 k,.int .i64 f,.bool true]]).length*32≤af∧0<32:=vi (by simp;omega);have cY:(f !=w)=decide (f≠w):=by
    by_cases h:f=w
    ·simp[h]
    ·simp[h]
   have DY:Oc w f i k=(if 0<w∧w≤14400 then[Zl i k w (f==w)]else[])++(if f≠w∧0<f∧f≤14400 then[Zl i k f true]else[]):=IN D3;simp only[hb,By,abG,hand,U,cY,I5,DY,BK Zj,BK SC,BK VL];by_cases h1:0<w∧w≤14400
   ·by_cases h2:f≠w
    ·by_cases h3:0<f∧f≤14400
     ·rw[BK h1,BK h2,BK h3,BK h1,BK ⟨h2,h3⟩,ajN];rfl
     ·rw[BK h1,BK h2,IN h3,BK h1,IN (fun h=>h3 h.2)];rfl
    ·rw[BK h1,IN h2,BK h1,IN (fun h=>h2 h.1)];rfl
   ·by_cases h2:f≠w
    ·by_cases h3:0<f∧f≤14400
     ·rw[IN h1,BK h2,BK h3,IN h1,BK ⟨h2,h3⟩];rfl
     ·rw[IN h1,BK h2,IN h3,IN h1,IN (fun h=>h3 h.2)];simp
    ·rw[IN h1,IN h2,IN h1,IN (fun h=>h2 h.1)];simp
 ·unfold iI;dsimp only;rw[IN (by simp)]
theorem Rh(n:Nat)(W F:Nat→Nat→Int)(hn:n≤64){es':List PV}(hs:xx 4 (fun c a b=>ca [a,b]) (AH n (fun i k=>Oc (W i k) (F i k) i k) n)=some es'):bn.run (iJ bn) (fm n W,fm n F,(n:Int),0,[],())=some (.rs 4 es'):=by
 have hlen:∀i,i≤n→(AH n (fun i k=>Oc (W i k) (F i k) i k) i).length≤8192:=fun i hi=>by have h1:=Bw (it:=fun i k=>Oc (W i k) (F i k) i k) (fun i k=>TG _ _ i k) n i;have hb:2*n*i≤2*64*64:=alO (by omega) (by omega);omega
 refine cj (fun i=>(fm n W,fm n F,(n:Int),(i:Int),AH n (fun i k=>Oc (W i k) (F i k) i k) i,())) n (fun i hi rec=>?_) (fun rec=>?_) (by unfold rounds;omega) rfl
 ·unfold iJ;dsimp only;have hg:decide ((i:Int)<(n:Int))=true:=by simp;omega
  have Z4:((va n (W i)).length:Int)=(n:Int):=by simp[va]
  rw[BK hg,aW,CW _ hi,U,acT,U,Z4,Vs rec n i W F hn hi _ (hlen i (by omega)),CV,ag (by omega)]
 ·unfold iJ;dsimp only;have h:=hlen n (ajC _);rw[IN (by simp),BK (by(first|refine⟨rfl,?_,rfl⟩|refine⟨rfl,?_⟩);unfold af;omega),hs];rfl
def kI:PV→Int
 |.int _ n=>n
 |_=>0
def c3(x y:Int):Int:=if x<y then-1 else if x>y then 1 else 0
def or3(a b c:Int):Int:=if a≠0 then a else if b≠0 then b else c
def cfp(a b:List PV):Int:=or3 (c3 (kI (a.getD 0 .bad)) (kI (b.getD 0 .bad))) (c3 (kI (a.getD 1 .bad)) (kI (b.getD 1 .bad))) (c3 (kI (a.getD 2 .bad)) (kI (b.getD 2 .bad)))
theorem Ri(x y:Int):eh [.int .i64 x,.int .i64 y]=some (.int .i64 (c3 x y)):=by
 have h:∀z:Int,¬(z !=z)=true:=fun z=>by simp
 simp only[eh,qm,G3,U,IN (h x),IN (h y),I5];unfold c3;split
 ·rfl
 ·split<;>rfl
theorem aeW(a b c:Int):og [.rs 1 [.int .i64 a,.int .i64 b,.int .i64 c]]=some (.int .i64 (or3 a b c)):=by
 have e0:aP 1 (.rs 1 [.int .i64 a,.int .i64 b,.int .i64 c])=some [.int .i64 a,.int .i64 b,.int .i64 c]:=by simp[aP]
 simp only[og,Af,e0,U];obtain⟨es,H2⟩:∃es,es=[PV.int .i64 a,.int .i64 b,.int .i64 c]:=⟨_,rfl⟩;have hl:((es.length:Nat):Int)=3:=by rw[H2];rfl
 rw[←H2];have hb:∀(k:Nat)(x:Int),es[k]?=some (.int .i64 x)→k<3→∀rec,eT (0,es,((es.length:Nat):Int),(k:Int),()) rec=if x≠0 then some (.int .i64 x)else rec (0,es,((es.length:Nat):Int),((k+1:Nat):Int),()):=fun k x hx hk rec=>by
  unfold eT;dsimp only;have hg:decide ((k:Int)<((es.length:Nat):Int))=true:=by rw[hl];simp;omega
  rw[BK hg,aW,hx,U,cI,G3,U,ag (by omega)];by_cases h:x=0
  ·subst h;rfl
  ·have:(x !=0)=true:=by simpa using h
   rw[BK this,BK h]
 have he:∀rec,eT (0,es,((es.length:Nat):Int),((3:Nat):Int),()) rec=some (.int .i64 0):=fun rec=>by
  unfold eT;dsimp only;have hg:¬decide (((3:Nat):Int)<((es.length:Nat):Int))=true:=by rw[hl];decide
  rw[IN hg]
 have hN:rounds=18446744073709551612+1+1+1+1:=rfl;rw[mi,hN];generalize 18446744073709551612=N;show eT (0,es,((es.length:Nat):Int),((0:Nat):Int),()) _=_;rw[hb 0 a (by rw[H2];rfl) (by omega)];unfold or3;by_cases h1:a≠0
 ·rw[BK h1,BK h1]
 ·rw[IN h1,IN h1];show eT (0,es,((es.length:Nat):Int),((1:Nat):Int),()) _=_;rw[hb 1 b (by rw[H2];rfl) (by omega)];by_cases h2:b≠0
  ·rw[BK h2,BK h2]
  ·rw[IN h2,IN h2];show eT (0,es,((es.length:Nat):Int),((2:Nat):Int),()) _=_;rw[hb 2 c (by rw[H2];rfl) (by omega)];by_cases h3:c≠0
   ·rw[BK h3]
   ·rw[IN h3];show eT (0,es,((es.length:Nat):Int),((3:Nat):Int),()) _=_;rw[he];have:c=0:=Decidable.not_not.1 h3;rw[this]
def VQ(i k:Nat)(s:Int)(b:Bool):List PV:=[.int .i64 i,.int .i64 k,.int .i64 s,.bool b]
theorem YP(i k:Nat)(s:Int)(b:Bool)(i' k':Nat)(s':Int)(b':Bool):ca [y4 (VQ i k s b),y4 (VQ i' k' s' b')]=some (.int .i64 (cfp (VQ i k s b) (VQ i' k' s' b'))):=by have a:∀(w x y z:PV),asAgg 4 (.agg [w,x,y,z])=some ():=fun _ _ _ _=>rfl;have a0:∀(w x y z:PV),cell (.agg [w,x,y,z]) 0=w:=fun _ _ _ _=>rfl;have a1:∀(w x y z:PV),cell (.agg [w,x,y,z]) 1=x:=fun _ _ _ _=>rfl;have a2:∀(w x y z:PV),cell (.agg [w,x,y,z]) 2=y:=fun _ _ _ _=>rfl;have a3:∀(w x y z:PV),cell (.agg [w,x,y,z]) 3=z:=fun _ _ _ _=>rfl;simp only[ca,mI,y4,VQ,a,a0,a1,a2,a3,G3,asBool,U,Ri,aeW];rfl
theorem Rj(x y:Int):(c3 x y<0↔x<y)∧(c3 x y=0↔x=y):=by unfold c3;split<;>(try split)<;>constructor<;>constructor<;>intro h<;>first|omega|(exfalso;omega)
theorem CY(i k:Nat)(s:Int)(b:Bool)(i' k':Nat)(s':Int)(b':Bool):cfp (VQ i k s b) (VQ i' k' s' b')<0↔i<i'∨(i=i'∧(k<k'∨(k=k'∧s<s'))):=by
 show or3 (c3 (i:Int) (i':Int)) (c3 (k:Int) (k':Int)) (c3 s s')<0↔_;have h1:=Rj (i:Int) (i':Int);have h2:=Rj (k:Int) (k':Int);have h3:=Rj s s';unfold or3;split
 ·constructor<;>intro h<;>omega
 ·split
  ·constructor<;>intro h<;>omega
  ·constructor<;>intro h<;>omega
def IsF(e:List PV):Prop:=∃i k s b,e=VQ i k s b
variable{ns:List (List PV)}
theorem Rk(h:ns.Pairwise fun a b=>cfp a b<0):∀a∈ns,∀b∈ns,¬cfp a b<0→¬cfp b a<0→a=b:=by
 induction h with
 |nil=>intro a ha;cases ha
 | @cons x l hx _ ih=>
  intro a ha b hb h1 h2;rcases ah4.1 ha with ea|ha'
  ·rcases ah4.1 hb with eb|iv
   ·rw[ea,eb]
   ·rw[ea]at h1;exact absurd (hx b iv) h1
  ·rcases ah4.1 hb with eb|iv
   ·rw[eb]at h2;exact absurd (hx a ha') h2
   ·exact ih a ha' b iv h1 h2
theorem M0(hF:∀e∈ns,IsF e)(h:ns.Pairwise fun a b=>cfp a b<0):k8 4 (fun c a b=>ca [a,b]) ns ns cfp where
 len a ha:=by obtain⟨i,k,s,b,rfl⟩:=hF a ha;rfl
 Wu a ha p hp:=by obtain⟨i,k,s,b,rfl⟩:=hF a ha;simp only[VQ,ah4,akR,amj]at hp;rcases hp with rfl|rfl|rfl|rfl<;>rfl
 perm:=List.Perm.refl _
 reads c _ _ a ha b hb:=by obtain⟨i,k,s,q,rfl⟩:=hF a ha;obtain⟨i',k',s',q',rfl⟩:=hF b hb;exact YP ..
 irrefl a ha:=by obtain⟨i,k,s,q,rfl⟩:=hF a ha;rw[CY];omega
 trans a ha b hb c hc h1 h2:=by obtain⟨i,k,s,q,rfl⟩:=hF a ha;obtain⟨i',k',s',q',rfl⟩:=hF b hb;obtain⟨i2,k2,s2,q2,rfl⟩:=hF c hc;rw[CY]at*;omega
 total:=Rk h
 sorted:=h.imp_of_mem fun{a b}ha hb uh=>by obtain⟨i,k,s,q,rfl⟩:=hF a ha;obtain⟨i',k',s',q',rfl⟩:=hF b hb;rw[CY]at*;omega
def itC(w f:Int)(i k:Nat):List (List PV):=if i=k∨w>14400 then[]else VQ i k w (f==w)::(if f>w∧f≤14400 then[VQ i k f true]else[])
theorem aaU(w f:Int)(i k:Nat):(itC w f i k).map y4=D6 w f i k:=by
 unfold itC D6;split
 ·rfl
 ·split<;>rfl
def Hn(n:Nat)(W F:Nat→Nat→Int):List (List PV):=(List.range n).flatMap fun i=>(List.range n).flatMap fun k=>itC (W i k) (F i k) i k
theorem CO(n:Nat)(W F:Nat→Nat→Int):eQ (Hn n W F)=AH n (fun i k=>D6 (W i k) (F i k) i k) n:=by unfold eQ Hn AH yy;rw[List.map_flatMap];congr 1;funext i;rw[List.map_flatMap];congr 1;funext k;exact aaU ..
theorem BJ{w f:Int}{i k:Nat}{e:List PV}(h:e∈itC w f i k):∃s b,e=VQ i k s b:=by
 unfold itC at h;split at h
 ·cases h
 ·rcases ah4.1 h with rfl|h
  ·exact⟨_,_,rfl⟩
  ·split at h
   ·simp at h;subst h;exact⟨_,_,rfl⟩
   ·cases h
theorem MH(n:Nat)(W F:Nat→Nat→Int):∀e∈Hn n W F,IsF e:=fun e h=>by obtain⟨i,_,h⟩:=ak5.1 h;obtain⟨k,_,h⟩:=ak5.1 h;obtain⟨s,b,rfl⟩:=BJ h;exact⟨i,k,s,b,rfl⟩
theorem M1(n:Nat)(W F:Nat→Nat→Int):(Hn n W F).Pairwise fun a b=>cfp a b<0:=by
 unfold Hn;rw[amO];refine⟨fun i _=>?_,List.pairwise_lt_range.imp fun{i i'}VJ x hx y hy=>?_⟩
 ·rw[amO];refine⟨fun k _=>?_,List.pairwise_lt_range.imp fun{k k'}Dk x hx y hy=>?_⟩
  ·unfold itC;split
   ·exact .nil
   ·split
    ·rename_i h;refine akA.2 ⟨fun y hy=>?_,amz ..⟩;simp at hy;subst hy;rw[CY];omega
    ·exact amz ..
  ·obtain⟨s,b,rfl⟩:=BJ hx;obtain⟨s',b',rfl⟩:=BJ hy;rw[CY];omega
 ·obtain⟨k,_,hx⟩:=ak5.1 hx;obtain⟨k',_,hy⟩:=ak5.1 hy;obtain⟨s,b,rfl⟩:=BJ hx;obtain⟨s',b',rfl⟩:=BJ hy;rw[CY];omega
theorem Q0(l:List Fp)(n:Nat)(hn:n≤64)(hl:l.length≤4096)(h:∀p∈l,p.a<n∧p.b<n∧1≤p.c∧p.c≤14400):eP [.rs 4 (l.map Fp.pv),.int .i64 n]=some (.rs 4 (eQ (Hn n (td n l false) (td n l true))))∧gk [.rs 4 (l.map Fp.pv),.int .i64 n]=some (.rs 4 (eQ (Hn n (td n l false) (td n l true)))):=by
 have hr:=Rg l n hn hl fun p hp=>⟨(h p hp).1,(h p hp).2.1⟩;rw[←CO]at hr;refine⟨?_,hr⟩;have hB:(14400:Nat)≤1073741824:=by omega
 obtain⟨D0,d0,e0⟩:=TD l n 14400 hn hl hB (fun p hp=>⟨(h p hp).1,(h p hp).2.1,(h p hp).2.2.2⟩) false;obtain⟨D1,d1,e1⟩:=TD l n 14400 hn hl hB (fun p hp=>⟨(h p hp).1,(h p hp).2.1,(h p hp).2.2.2⟩) true;have hM:14400*n<BG:=by show 14400*n<1099511627776;omega
 have OZ:AH n (fun i k=>Oc (D0 i k) (D1 i k) i k) n=eQ (Hn n (td n l false) (td n l true)):=by
  rw[CO];unfold AH yy;rw[alX,alX];congr 1;apply aj9;intro i hi;rw[alX,alX];congr 1;apply aj9;intro k hk;have hi:=ala.1 hi;have hk:=ala.1 hk;dsimp only;by_cases D3:i=k
  ·rw[show Oc (D0 i k) (D1 i k) i k=[]from BK D3,show D6 (td n l false i k) (td n l true i k) i k=[]from BK (.inl D3)]
  ·exact aeV hM (TF hn hB h false hi hk D3 (d0 i k hi hk)) (TF hn hB h true hi hk D3 (d1 i k hi hk)) (aaT (d0 i k hi hk) (d1 i k hi hk)) i k
 have a0:aP 4 (.rs 4 (l.map Fp.pv))=some (l.map Fp.pv):=by simp[aP]
 have a1:∀es,aP 1 (.rs 1 es)=some es:=fun es=>by simp[aP]
 have hlen:((fm n D0).length:Int)=(n:Int):=by simp[fm]
 simp only[eP,oL,a0,G3,U,e0,e1,a1,hlen];exact Rh n D0 D1 hn (by rw[OZ];exact UD (M0 (MH _ _ _) (M1 _ _ _)))
end Go.Ab.Nw
