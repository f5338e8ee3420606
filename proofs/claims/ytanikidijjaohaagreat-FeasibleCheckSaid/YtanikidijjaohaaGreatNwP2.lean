import Derived.Test.YtanikidijjaohaaGreatNwP1
namespace Go.Ab.Nw
set_option maxRecDepth 100000
set_option linter.unusedVariables false
set_option linter.unusedSimpArgs false
def N9(E:List Ed)(M:Nat)(s v:Nat)(d:Int):Prop:=(d= -1∧∀L,¬HE E s v L)∨∃L:Nat,d=L∧L≤M∧HE E s v L∧∀L',HE E s v L'→L≤L'
theorem N9.unique{E:List Ed}{M M' s v:Nat}{d d':Int}(h:N9 E M s v d)(h':N9 E M' s v d'):d=d':=by
 rcases h with⟨e,h⟩|⟨L,e,_,h1,h2⟩
 ·rcases h' with⟨e',_⟩|⟨L',_,_,VA,_⟩
  ·rw[e,e']
  ·exact absurd VA (h L')
 ·rcases h' with⟨_,h'⟩|⟨L',e',_,VA,V9⟩
  ·exact absurd h1 (h' L)
  ·rw[e,e',Nat.le_antisymm (h2 _ VA) (V9 _ h1)]
theorem HE.mem{E E':List Ed}(h:∀y,y∈E→y∈E'){s v L:Nat}(hr:HE E s v L):HE E' s v L:=by
 rcases hr with hr|hr
 ·exact .inl hr
 ·exact .inr (hr.mono fun i j c hc=>h _ hc)
theorem N9.mem{E E':List Ed}(h:∀y,y∈E↔y∈E'){M s v:Nat}{d:Int}(hd:N9 E M s v d):N9 E' M s v d:=by
 rcases hd with⟨e,h1⟩|⟨L,e,hM,h1,h2⟩
 ·exact .inl ⟨e,fun L hL=>h1 L (hL.mem fun y hy=>(h y).2 hy)⟩
 ·exact .inr ⟨L,e,hM,h1.mem fun y hy=>(h y).1 hy,fun L' hL=>h2 L' (hL.mem fun y hy=>(h y).2 hy)⟩
def ta(n:Nat)(D:Nat→Int):List PV:=(List.range n).map fun v=>.int .i64 (D v)
def eP(n:Nat)(D:Nat→Nat→Int):List PV:=(List.range n).map fun s=>.rs 1 (ta n (D s))
variable{D:Nat→Nat→Int}
theorem JV{n:Nat}{D':Nat→Nat→Int}(h:∀s v,s<n→v<n→D s v=D' s v):eP n D=eP n D':=by unfold eP;apply ahc;intro s hs;unfold ta;congr 1;apply ahc;intro v hv;rw[h s v (aib.1 hs) (aib.1 hv)]
theorem U8(E:List Ed)(n B:Nat)(hn:n≤64)(hE:E.length≤4096)(hB:B≤1073741824)(h:∀y∈E,y.f<n∧y.t<n∧y.c≤B):∃D:Nat→Nat→Int,(∀s v,s<n→v<n→N9 E (B*n) s v (D s v))∧fM [.int .i64 n,.rs 3 (E.map Ed.pv)]=some (.bn [.rs 1 (eP n D),.int .i64 0]):=by
 have h':∀y∈E,y.f<n∧y.t<n∧y.c≤1073741824:=fun y hy=>⟨(h y hy).1,(h y hy).2.1,by have:=(h y hy).2.2;omega⟩;have hG:=U7 E n hn hE h';have each:∀s,∃o:nC,s<n→(∃pu,DI E n s B o pu [])∧eO [.int .i64 n,.rm 3 ((Gk (wX E)).map fun x=>x.1) ((Gk (wX E)).map fun x=>x.2.mW),.int .i64 s]=some (.rs 3 (dE n o)):=fun s=>by
  by_cases hs:s<n
  ·obtain⟨o,pu,h1,h2⟩:=RW hG hs hB (fun y hy=>(h y hy).2.2) hn;exact⟨o,fun _=>⟨⟨pu,h1⟩,h2⟩⟩
  ·exact⟨fun _=>none,fun h=>absurd h hs⟩
 obtain⟨o,ho⟩:=Classical.axiomOfChoice each;refine⟨fun s v=>HH (o s v),fun s v hs hv=>?_,?_⟩
 ·obtain⟨⟨pu,hI⟩,_⟩:=ho s hs;have:=hI.done h hv;cases hl:o s v with
  |none=>rw[hl]at this;exact .inl ⟨by dsimp only;rw[hl];rfl,this⟩
  |some p=>obtain⟨L,e⟩:=p;rw[hl]at this;exact .inr ⟨L,by dsimp only;rw[hl];rfl,this.1,this.2.1,this.2.2⟩
 ·have e0:aQ 3 (.rs 3 (E.map Ed.pv))=some (E.map Ed.pv):=by simp[aQ]
  have gu:(0:Int)≤(n:Int)∧(n:Int)≤(n:Int)∧n*24≤aj∧0<24∧0<1:=by refine⟨by omega,by omega,?_,by omega,by omega⟩;unfold aj;omega
  have hz:((0:Int) !=0)=false:=rfl;simp only[fM,tQ,Es,e0,U,U5 E n hn hE h',hz,AT,Xq,HK E hE,dJ,T1,afm,BY gu,ah0];refine bT (fun k=>((n:Int),PV.rm 3 ((Gk (wX E)).map fun x=>x.1) ((Gk (wX E)).map fun x=>x.2.mW),(n:Int),(k:Int),rC n k (fun s=>.rs 1 (ta n fun v=>HH (o s v))) (.rs 0 []),())) n (fun k hk rec=>?_) (fun rec=>?_) (by unfold rounds;omega) ?_
  ·unfold lj;dsimp only;have hg:decide ((k:Int)<(n:Int))=true:=by simp;omega
   have e3:aQ 3 (.rs 3 (dE n (o k)))=some (dE n (o k)):=by simp[aQ]
   have e1:aQ 1 (.rs 1 ((List.range n).map fun v=>PV.int .i64 (HH (o k v))))=some ((List.range n).map fun v=>PV.int .i64 (HH (o k v))):=by simp[aQ]
   rw[BY hg,(ho k hk).2,U,e3,U,N8 n hn,U,e1,U,BY (Cf (by rw[JR];exact hk)),afm,JS hk,U,ah (by omega)];have:=JT (F:=fun s=>PV.rs 1 (ta n fun v=>HH (o s v))) (z:=.rs 0 []) hk;unfold ta at this⊢;rw[this]
  ·unfold lj;dsimp only;rw[IN (by simp),JU];rfl
  ·rw[Gj];rfl
theorem U9(E E':List Ed)(n B:Nat)(hn:n≤64)(hE:E'.length≤4096)(hB:B≤1073741824)(h:∀y∈E,y.f<n∧y.t<n∧y.c≤B)(he:∀y,y∈E↔y∈E')(hD:∀s v,s<n→v<n→N9 E (B*n) s v (D s v)):fM [.int .i64 n,.rs 3 (E'.map Ed.pv)]=some (.bn [.rs 1 (eP n D),.int .i64 0]):=by obtain⟨D',d1,d2⟩:=U8 E' n B hn hE hB fun y hy=>h y ((he y).2 hy);rw[d2,JV fun s v hs hv=>((hD s v hs hv).mem he).unique (d1 s v hs hv)]
structure Fp where
 a:Nat
 b:Nat
 c:Nat
 free:Bool
 deriving DecidableEq
def Fp.pv(p:Fp):PV:=.agg [.int .i64 p.a,.int .i64 p.b,.int .i64 p.c,.bool p.free]
theorem fp0(p:Fp):cell p.pv 0=.int .i64 p.a:=rfl
theorem fp1(p:Fp):cell p.pv 1=.int .i64 p.b:=rfl
theorem fp2(p:Fp):cell p.pv 2=.int .i64 p.c:=rfl
theorem fp3(p:Fp):cell p.pv 3=.bool p.free:=rfl
def Fp.ed(p:Fp):Ed:=⟨p.a,p.b,p.c⟩
def yF(z:Ed):List Ed→List Ed
 |[]=>[z]
 |e::r=>if z.f=e.f∧z.t=e.t then z::r else e::yF z r
def zz(a b:Nat):List Ed→Option Nat
 |[]=>none
 |e::r=>if a=e.f∧b=e.t then some e.c else zz a b r
theorem Ei(a b:Nat)(z:Ed):∀m,zz a b (yF z m)=if a=z.f∧b=z.t then some z.c else zz a b m
 |[]=>rfl
 |e::r=>by
  simp only[yF];by_cases h:z.f=e.f∧z.t=e.t
  ·rw[BY h];simp only[zz];by_cases h2:a=z.f∧b=z.t
   ·rw[BY h2,BY h2]
   ·rw[IN h2,IN h2,IN (by rw[←h.1,←h.2];exact h2)]
  ·rw[IN h];simp only[zz];by_cases h2:a=e.f∧b=e.t
   ·rw[BY h2,IN (by rw[h2.1,h2.2];rintro⟨x,y⟩;exact h ⟨x.symm,y.symm⟩),BY h2]
   ·rw[IN h2,IN h2];exact Ei a b z r
theorem JW(z e:Ed):∀m,e∈yF z m→e=z∨e∈m
 |[],h=>by simp[yF]at h;exact .inl h
 |x::r,h=>by
  simp only[yF]at h;split at h
  ·rcases afh.1 h with h|h
   ·exact .inl h
   ·exact .inr (by simp[h])
  ·rcases afh.1 h with h|h
   ·exact .inr (by simp[h])
   ·rcases JW z e r h with h|h
    ·exact .inl h
    ·exact .inr (by simp[h])
theorem JX{a b x:Nat}:∀{m:List Ed},zz a b m=some x→∃e∈m,e.f=a∧e.t=b∧e.c=x
 |[],h=>by cases h
 |e::r,h=>by
  simp only[zz]at h;split at h
  ·rename_i h2;cases h;exact⟨e,by simp,h2.1.symm,h2.2.symm,rfl⟩
  ·obtain⟨e',h1,h2⟩:=JX h;exact⟨e',by simp[h1],h2⟩
theorem JY(z:Ed):∀m,(yF z m).length≤m.length+1
 |[]=>by simp[yF]
 |e::r=>by
  simp only[yF];split
  ·simp
  ·have:=JY z r;simp;omega
def Qk(fr:Bool)(m:List Ed)(p:Fp):List Ed:=if(fr&& !p.free)=true then m else match zz p.a p.b m with
 |none=>yF p.ed m
 |some x=>if p.c<x then yF p.ed m else m
def lF(fr:Bool)(l:List Fp):List Ed:=l.foldl (Qk fr) []
theorem Gp(fr:Bool)(l:List Fp)(p:Fp):lF fr (l++[p])=Qk fr (lF fr l) p:=by simp[lF]
def counted(fr:Bool)(l:List Fp):List Ed:=(l.filter fun p=> !(fr&& !p.free)).map Fp.ed
theorem Ql(fr:Bool)(l:List Fp):(∀e∈lF fr l,e∈counted fr l)∧(∀e∈counted fr l,∃x,zz e.f e.t (lF fr l)=some x∧x≤e.c)∧(lF fr l).length≤l.length:=by
 rw[←aiV l];induction l.reverse with
 |nil=>exact⟨(fun e h=>by simp[lF]at h),(fun e h=>by simp[counted]at h),agM _⟩
 |cons p l ih=>
  rw[ajj,Gp];obtain⟨i1,i2,i3⟩:=ih;have hc:counted fr (l.reverse++[p])=counted fr l.reverse++(if(fr&& !p.free)=true then[]else[p.ed]):=by
   unfold counted;rw[aiE,ah8];congr 1;cases hb:(fr&& !p.free)with
   |true=>simp only[ah2,hb,afj,AT,Xq,ai2,ail,T1]
   |false=>simp only[ah2,hb,agX,AT,Xq,ai2,ail,agP,T1]
  rw[hc];unfold Qk;by_cases h:(fr&& !p.free)=true
  ·rw[BY h,BY h];exact⟨fun e he=>by simpa using i1 e he,fun e he=>i2 e (by simpa using he),by simp at i3⊢;omega⟩
  ·rw[IN h,IN h];have put:(∀e∈yF p.ed (lF fr l.reverse),e∈counted fr l.reverse++[p.ed]):=fun e he=>by
    rcases JW _ _ _ he with rfl|he
    ·simp
    ·exact aix _ (i1 e he)
   have len:(yF p.ed (lF fr l.reverse)).length≤(l.reverse++[p]).length:=by have:=JY p.ed (lF fr l.reverse);simp at i3⊢;omega
   cases hb:zz p.a p.b (lF fr l.reverse)with
   |none=>
    refine⟨put,fun e he=>?_,len⟩;rw[Ei];by_cases hk:e.f=p.ed.f∧e.t=p.ed.t
    ·rw[BY hk];rcases ag2.1 he with he|he
     ·obtain⟨x,h1,_⟩:=i2 e he;rw[hk.1,hk.2]at h1;rw[show p.ed.f=p.a from rfl,show p.ed.t=p.b from rfl,hb]at h1;cases h1
     ·simp at he;subst he;exact⟨_,rfl,agM _⟩
    ·rw[IN hk];rcases ag2.1 he with he|he
     ·exact i2 e he
     ·simp at he;subst he;exact absurd ⟨rfl,rfl⟩ hk
   |some x=>
    dsimp only;by_cases hx:p.c<x
    ·rw[BY hx];refine⟨put,fun e he=>?_,len⟩;rw[Ei];by_cases hk:e.f=p.ed.f∧e.t=p.ed.t
     ·rw[BY hk];rcases ag2.1 he with he|he
      ·obtain⟨y,h1,h2⟩:=i2 e he;rw[hk.1,hk.2,show p.ed.f=p.a from rfl,show p.ed.t=p.b from rfl,hb]at h1;cases h1;exact⟨_,rfl,by show p.c≤e.c;omega⟩
      ·simp at he;subst he;exact⟨_,rfl,agM _⟩
     ·rw[IN hk];rcases ag2.1 he with he|he
      ·exact i2 e he
      ·simp at he;subst he;exact absurd ⟨rfl,rfl⟩ hk
    ·rw[IN hx];refine⟨fun e he=>aix _ (i1 e he),fun e he=>?_,by simp at i3⊢;omega⟩;rcases ag2.1 he with he|he
     ·exact i2 e he
     ·simp at he;subst he;exact⟨x,hb,by show x≤p.c;omega⟩
def mK(e:Ed):PV×PV:=(.agg [.int .i64 e.f,.int .i64 e.t,.bool false],.int .i64 e.c)
theorem ab6(a b c d:Nat):dF (PV.agg [.int .i64 a,.int .i64 b,.bool false]).cells (PV.agg [.int .i64 c,.int .i64 d,.bool false]).cells=decide (a=c∧b=d):=by
 have h:∀x y:Nat,((x:Int)==(y:Int))=decide (x=y):=fun x y=>by
  by_cases h:x=y
  ·simp[h]
  ·rw[ahf h,aho];omega
 simp only[PV.cells,dF,peq,ahY,h,beq_self_eq_true,Bool.decide_and]
theorem YD(a b:Nat):∀m:List Ed,dD (.agg [.int .i64 a,.int .i64 b,.bool false]) (.int .i64 0) (m.map mK)=.int .i64 (((zz a b m).getD 0:Nat):Int)∧uy (.agg [.int .i64 a,.int .i64 b,.bool false]) (m.map mK)=(zz a b m).isSome
 |[]=>⟨rfl,rfl⟩
 |e::r=>by
  obtain⟨h1,h2⟩:=YD a b r;simp only[agP,mK,dD,uy,ab6,zz];by_cases h:a=e.f∧b=e.t
  ·simp[h]
  ·simp only[h,agY,AT,Xq,ahA];exact⟨h1,h2⟩
theorem aaq(z:Ed):∀m:List Ed,eG (.agg [.int .i64 z.f,.int .i64 z.t,.bool false]) (.int .i64 z.c) (m.map mK)=(yF z m).map mK
 |[]=>rfl
 |e::r=>by
  have ih:=aaq z r;simp only[agP,eG,yF];rw[show(mK e)=(PV.agg [.int .i64 e.f,.int .i64 e.t,.bool false],PV.int .i64 e.c)from rfl];simp only[ab6];by_cases h:z.f=e.f∧z.t=e.t
  ·simp[h,mK]
  ·simp only[h,agY,AT,Xq,agP,ih];rfl
theorem CU{R:Type}{n:Nat}{g:Nat→Option R}{r:R}(hn:0<n)(h:∀i,i<n→g i=some r):rq n g=some r:=by unfold rq;have hh:∃r,∀i,i<n→g i=some r:=⟨r,h⟩;rw[aj1 hh];have:=Classical.choose_spec hh 0 hn;rw[h 0 hn]at this;exact this.symm
theorem RX{n:Nat}(hn:n≤64)(r:PV)(ab7:List Ed→Prop)(mZ:∀acc,ab7 acc→∃D,fM [.int .i64 n,.rs 3 (acc.map Ed.pv)]=some (.bn [.rs 1 D,.int .i64 0])∧r=.rs 1 D):∀(rem acc:List Ed)(N:Nat),rem.length<N→acc.length+rem.length≤4096→(∀l,(∀y,y∈l↔y∈acc∨y∈rem)→l.length=acc.length+rem.length→ab7 l)→cY (ee bx) N ((n:Int),acc.map Ed.pv,rem.map mK,())=some r:=by
 intro rem;generalize hk:rem.length=k;induction k generalizing rem with
 |zero=>
  intro acc N hN hl hg;have:rem=[]:=afl hk;subst this;obtain⟨N,rfl⟩:∃m,N=m+1:=⟨N-1,by omega⟩;simp only[cY];unfold ee;dsimp only;rw[BY (show(List.map mK []).isEmpty=true from rfl)];obtain⟨D,h1,h2⟩:=mZ acc (hg acc (fun y=>by simp) (by simp));have e2:cO 2 (.bn [.rs 1 D,.int .i64 0])=some [.rs 1 D,.int .i64 0]:=rfl;have e3:aQ 1 (.rs 1 D)=some D:=by simp[aQ]
  rw[h1,U,e2,U];simp only[agL,agH,e3,U,Es];rw[h2]
 |succ k ih=>
  intro acc N hN hl hg;obtain⟨N,rfl⟩:∃m,N=m+1:=⟨N-1,by omega⟩;simp only[cY];generalize fq:cY (ee bx) N=rec;unfold ee;dsimp only
  have cL:¬(rem.map mK).isEmpty=true:=by cases rem with
   |nil=>simp at hk
   |cons _ _=>simp
  rw[IN cL];refine CU (by simp;omega) fun i hi=>?_;have mT:i<rem.length:=by simpa using hi
  obtain⟨e,he⟩:∃e,rem[i]?=some e:=⟨_,AS mT⟩;have EF:(rem.map mK)[i]?=some (mK e):=by rw[IS,he];rfl
  have gu:(acc.map Ed.pv++[PV.agg [.int .i64 e.f,.int .i64 e.t,.int .i64 e.c]]).length*24≤aj∧0<24:=by simp only[ag1,T0,agU,ahg];unfold aj;omega
  have Ep:acc.map Ed.pv++[PV.agg [.int .i64 e.f,.int .i64 e.t,.int .i64 e.c]]=(acc++[e]).map Ed.pv:=by simp[Ed.pv]
  have aar:(rem.map mK).eraseIdx i=(rem.eraseIdx i).map mK:=by apply ag5;intro j;simp only[ajx,IS];split<;>rfl
  have hle:(rem.eraseIdx i).length=k:=by rw[aiX];simp[mT];omega
  rw[EF,U];rw[Ep]at gu;simp only[mK,ag3,ab0,aao,Es,U,Ep,BY gu,aar];rw[←fq];refine ih (rem.eraseIdx i) hle (acc++[e]) N (by omega) (by simp;omega) fun l hml Fm=>hg l (fun y=>?_) (by rw[Fm];simp;omega);rw[hml];have bR:y∈rem↔y=e∨y∈rem.eraseIdx i:=by
   rw[List.mem_eraseIdx_iff_getElem?];constructor
   ·intro hy;obtain⟨j,hj⟩:=ag4 hy;by_cases QY:j=i
    ·subst QY;rw[he]at hj;exact .inl (ai3 hj).symm
    ·exact .inr ⟨j,QY,hj⟩
   ·rintro(rfl|⟨j,_,hj⟩)
    ·exact aaQ he
    ·exact aaQ hj
  rw[bR];simp only[ag2,aiu];constructor
  ·rintro((h|h)|h)
   ·exact .inl h
   ·exact .inr (.inl h)
   ·exact .inr (.inr h)
  ·rintro(h|h|h)
   ·exact .inl (.inl h)
   ·exact .inl (.inr h)
   ·exact .inr h
theorem HE.leq{E E':List Ed}(h:∀e∈E,∃e'∈E',e'.f=e.f∧e'.t=e.t∧e'.c≤e.c){s v L:Nat}(hr:HE E s v L):∃L',L'≤L∧HE E' s v L':=by
 rcases hr with⟨h1,h2⟩|hr
 ·exact⟨L,agM _,.inl ⟨h1,h2⟩⟩
 ·obtain⟨L',l1,l2⟩:=hr.leq (w':=ew E') fun i j c hc=>by
   obtain⟨e',m,e1,e2,e3⟩:=h _ hc;refine⟨e'.c,e3,?_⟩;unfold ew;have:(⟨i,j,e'.c⟩:Ed)=e':=by have e1:e'.f=i:=e1;have e2:e'.t=j:=e2;rw[←e1,←e2]
   rw[this];exact m
  exact⟨L',l1,.inr l2⟩
theorem Va{fr:Bool}{l:List Fp}{M s v:Nat}{d:Int}(h:N9 (lF fr l) M s v d):N9 (counted fr l) M s v d:=by
 obtain⟨b1,b2,_⟩:=Ql fr l;have low:∀{L},HE (counted fr l) s v L→∃L',L'≤L∧HE (lF fr l) s v L':=fun hr=>hr.leq fun e he=>by obtain⟨x,h1,h2⟩:=b2 e he;obtain⟨e',m,e1,e2,e3⟩:=JX h1;exact⟨e',m,e1,e2,by omega⟩
 rcases h with⟨e,h1⟩|⟨L,e,hM,h1,h2⟩
 ·refine .inl ⟨e,fun L hL=>?_⟩;obtain⟨L',_,hL'⟩:=low hL;exact h1 L' hL'
 ·refine .inr ⟨L,e,hM,h1.mem b1,fun L' hL=>?_⟩;obtain⟨L'',l1,l2⟩:=low hL;exact ahl (h2 L'' l2) l1
theorem wb{fr:Bool}{l:List Fp}{e:Ed}(h:e∈counted fr l):∃p∈l,p.ed=e:=by unfold counted at h;obtain⟨p,hp,rfl⟩:=agZ.1 h;exact⟨p,(aii.1 hp).1,rfl⟩
theorem Qm(l:List Fp)(n B:Nat)(hn:n≤64)(hl:l.length≤4096)(hB:B≤1073741824)(h:∀p∈l,p.a<n∧p.b<n∧p.c≤B)(fr:Bool):∃D:Nat→Nat→Int,(∀s v,s<n→v<n→N9 (counted fr l) (B*n) s v (D s v))∧dC [.rs 4 (l.map Fp.pv),.int .i64 n,.bool fr]=some (.rs 1 (eP n D)):=by
 obtain⟨b1,b2,b3⟩:=Ql fr l;have hbe:∀y∈lF fr l,y.f<n∧y.t<n∧y.c≤B:=fun y hy=>by obtain⟨p,hp,rfl⟩:=wb (b1 y hy);exact h p hp
 obtain⟨D,d1,d2⟩:=U8 (lF fr l) n B hn (by omega) hB hbe;refine⟨D,fun s v hs hv=>Va (d1 s v hs hv),?_⟩;have e0:aQ 4 (.rs 4 (l.map Fp.pv))=some (l.map Fp.pv):=by simp[aQ]
 simp only[dC,lz,e0,U,Es,asBool];refine bT (fun k=>((n:Int),fr,l.map Fp.pv,((l.map Fp.pv).length:Int),(k:Int),(lF fr (l.take k)).map mK,())) l.length (fun k hk rec=>?_) (fun rec=>?_) (by unfold rounds;omega) (by simp[lF])
 ·unfold jd;dsimp only;have hg:decide ((k:Int)<((l.map Fp.pv).length:Int))=true:=by simp;omega
  obtain⟨p,hp⟩:∃p,l[k]?=some p:=⟨_,AS hk⟩;have EF:(l.map Fp.pv)[k]?=some p.pv:=by rw[IS,hp];rfl
  have htk:l.take (k+1)=l.take k++[p]:=by rw[ajm,hp];rfl
  have hr7:(bif fr then(asBool (cell p.pv 3)).bind fun b6=>some !b6 else some false)=some (fr&& !p.free):=by rw[fp3];cases fr<;>rfl
  obtain⟨g1,g2⟩:=YD p.a p.b (lF fr (l.take k));rw[BY hg,aV,EF,U,hr7,U,ah (by omega),htk,Gp];unfold Qk;by_cases hf:(fr&& !p.free)=true
  ·rw[BY hf,BY hf]
  ·rw[IN hf,IN hf];simp only[fp0,fp1,fp2,Es,U,g1,g2];cases hb:zz p.a p.b (lF fr (l.take k))with
   |none=>simp only[aje,agX,cond_true,U,T1];rw[show(p.c:Int)=((p.ed.c:Nat):Int)from rfl,show(p.a:Int)=((p.ed.f:Nat):Int)from rfl,show(p.b:Int)=((p.ed.t:Nat):Int)from rfl,aaq]
   |some x=>
    simp only[Option.isSome_some,afj,cond_false,U,ahB];by_cases hx:p.c<x
    ·have hd:decide ((p.c:Int)<(x:Int))=true:=by simp;omega
     simp only[hd,T1,BY hx];rw[show(p.c:Int)=((p.ed.c:Nat):Int)from rfl,show(p.a:Int)=((p.ed.f:Nat):Int)from rfl,show(p.b:Int)=((p.ed.t:Nat):Int)from rfl,aaq]
    ·have hd:decide ((p.c:Int)<(x:Int))=false:=by simp;omega
     simp only[hd,AT,Xq,IN hx]
 ·unfold jd;dsimp only;have hml:((lF fr (l.take l.length)).map mK).length≤maxLen:=by
   rw[aht,T0];have:(4096:Nat)≤maxLen:=by decide
   omega
  have gu:(0:Int)≤0∧0≤((((lF fr (l.take l.length)).map mK).length:Nat):Int)∧((((lF fr (l.take l.length)).map mK).length:Nat):Int).toNat*24≤aj∧0<24∧0<3:=by refine⟨by omega,by omega,?_,by omega,by omega⟩;rw[afm,aht,T0];unfold aj;omega
  rw[IN (by simp),BY hml,BY gu,aht,lX];have hp:=RX hn (.rs 1 (eP n D)) (fun acc=>(∀y,y∈lF fr l↔y∈acc)∧acc.length≤4096) (fun acc⟨h1,h2⟩=>⟨_,U9 (lF fr l) acc n B hn h2 hB hbe h1 d1,rfl⟩) (lF fr l) [] rounds (by unfold rounds;omega) (by simp;omega) (fun l' h1 h2=>⟨fun y=>by rw[h1];simp,by rw[h2];simp;omega⟩);exact hp
abbrev Mx:=Nat→Nat→Nat
def HL(d:Mx)(i j x:Nat):Mx:=fun a b=>if a=i∧b=j then x else d a b
def dj(k i:Nat)(d:Mx):Nat→Mx
 |0=>d
 |j+1=>HL (dj k i d j) i j (min (dj k i d j i j) (dj k i d j i k+dj k i d j k j))
def di(n k:Nat)(d:Mx):Nat→Mx
 |0=>d
 |i+1=>dj k i (di n k d i) n
def dk(n:Nat)(d:Mx):Nat→Mx
 |0=>d
 |k+1=>di n k (dk n d k) n
structure RY(w:Nat→Nat→Nat→Prop)(inf n k i j:Nat)(d:Mx):Prop where
 fw:Fw w inf n d
 lR:∀a b,a<n→b<n→qP w k a b (d a b)
 new:∀a b,a<n→b<n→(a<i∨(a=i∧b<j))→qP w (k+1) a b (d a b)
variable {w:Nat→Nat→Nat→Prop} {inf n:Nat}
theorem qP.le{k i j x y:Nat}(h:qP w k i j x)(hy:y≤x):qP w k i j y:=fun L hL=>ahl hy (h L hL)
theorem RY.cell{k i j:Nat}{d:Mx}(h:RY w inf n k i j d)(hi:i<n)(hj:j<n)(hk:k<n):RY w inf n k i (j+1) (HL d i j (min (d i j) (d i k+d k j))):=by
 obtain⟨h1,h2,h3⟩:=Xd h.fw hi hj hk (x:=min (d i j) (d i k+d k j)) rfl (d':=HL d i j (min (d i j) (d i k+d k j))) (fun a b=>rfl);refine⟨h1,fun a b ha hb=>(h.lR a b ha hb).le (h2 a b),fun a b ha hb hd=>?_⟩;by_cases e:a=i∧b=j
 ·obtain⟨rfl,rfl⟩:=e;exact h3 (h.lR _ _ ha hk) (h.lR _ _ hk hb) (h.lR _ _ ha hb)
 ·exact(h.new a b ha hb (by omega)).le (h2 a b)
theorem RY.row{k i:Nat}{d:Mx}(h:RY w inf n k i 0 d)(hi:i<n)(hk:k<n):∀j,j≤n→RY w inf n k i j (dj k i d j)
 |0,_=>h
 |j+1,hj=>(RY.row h hi hk j (by omega)).cell hi (by omega) hk
theorem RY.rows{k:Nat}{d:Mx}(h:RY w inf n k 0 0 d)(hk:k<n):∀i,i≤n→RY w inf n k i 0 (di n k d i)
 |0,_=>h
 |i+1,hi=>by have:=(RY.rows h hk i (by omega)).row (by omega) hk n (agM _);exact⟨this.fw,this.lR,fun a b ha hb hd=>this.new a b ha hb (by omega)⟩
structure AB(w:Nat→Nat→Nat→Prop)(inf n k:Nat)(d:Mx):Prop where
 fw:Fw w inf n d
 low:∀a b,a<n→b<n→qP w k a b (d a b)
theorem AB.rounds{d:Mx}(h:AB w inf n 0 d):∀k,k≤n→AB w inf n k (dk n d k)
 |0,_=>h
 |k+1,hk=>by have ih:=AB.rounds h k (by omega);have:=RY.rows (k:=k) ⟨ih.fw,ih.low,fun a b ha hb hd=>by omega⟩ (by omega) n (agM _);exact⟨this.fw,fun a b ha hb=>this.new a b ha hb (.inl ha)⟩
def Qn(inf:Nat):Mx:=fun _ _=>inf
def lay(d:Mx)(e:Ed):Mx:=HL d e.f e.t (min (d e.f e.t) e.c)
def start(inf:Nat)(E:List Ed):Mx:=E.foldl lay (Qn inf)
theorem Ej(inf:Nat)(E:List Ed)(e:Ed):start inf (E++[e])=lay (start inf E) e:=by simp[start]
theorem Vb(E:List Ed):(∀i j,start inf E i j≤inf)∧(∀i j,start inf E i j<inf→(⟨i,j,start inf E i j⟩:Ed)∈E)∧∀e∈E,start inf E e.f e.t≤e.c:=by
 rw[←aiV E];induction E.reverse with
 |nil=>exact⟨fun i j=>agM _,fun i j h=>by simp[start,Qn]at h,fun e h=>by cases h⟩
 |cons e l ih=>
  rw[ajj,Ej];obtain⟨i1,i2,i3⟩:=ih;have hl:∀a b,lay (start inf l.reverse) e a b=if a=e.f∧b=e.t then min (start inf l.reverse e.f e.t) e.c else start inf l.reverse a b:=fun a b=>rfl;refine⟨fun a b=>?_,fun a b h=>?_,fun z hz=>?_⟩
  ·rw[hl];split
   ·have:=i1 e.f e.t;omega
   ·exact i1 a b
  ·rw[hl]at h⊢;split
   ·rename_i hk;rw[BY hk]at h;by_cases hm:start inf l.reverse e.f e.t≤e.c
    ·rw[show min (start inf l.reverse e.f e.t) e.c=start inf l.reverse e.f e.t by omega]at h⊢;rw[hk.1,hk.2];exact aix _ (i2 _ _ h)
    ·rw[show min (start inf l.reverse e.f e.t) e.c=e.c by omega,hk.1,hk.2];simp
   ·rename_i hk;rw[IN hk]at h;exact aix _ (i2 a b h)
  ·rw[hl];rcases ag2.1 hz with hz|hz
   ·have:=i3 z hz;split
    ·rename_i hk;rw[hk.1,hk.2]at this;omega
    ·exact this
   ·simp at hz;subst hz;rw[BY ⟨rfl,rfl⟩];omega
theorem Ek(E:List Ed):AB (ew E) inf n 0 (start inf E):=by obtain⟨h1,h2,h3⟩:=Vb (inf:=inf) E;exact⟨⟨fun i j _ _=>h1 i j,fun i j _ _ h=>.Eg (h2 i j h)⟩,fun a b _ _ L hL=>h3 ⟨a,b,L⟩ hL⟩
theorem Xk{E:List Ed}{M:Nat}(hE:∀y∈E,y.f<n∧y.t<n)(hM:M<inf){i j:Nat}(hi:i<n)(hj:j<n)(Ps:i≠j){D:Int}(hD:N9 E M i j D):(D= -1∧dk n (start inf E) n i j=inf)∨(D=(dk n (start inf E) n i j:Int)∧dk n (start inf E) n i j≤M):=by
 have hd:=(Ek (n:=n) (inf:=inf) E).rounds n (agM _);have rch:∀L,HE E i j L↔kC (ew E) i j L:=fun L=>⟨fun h=>by rcases h with⟨h,_⟩|h;exact absurd h.symm Ps;exact h,.inr⟩;have hs:=Xe (w:=ew E) (fun a b c h=>(hE _ h).1) hd.fw hi hj (hd.low i j hi hj) (fun L QN hw=>by
  rcases hD with⟨_,h⟩|⟨L',_,hle,h1,h2⟩
  ·exact absurd ((rch L).2 hw) (h L)
  ·have:=QN L' ((rch L').1 h1);omega)
 rcases hD with⟨e,h⟩|⟨L',e,hle,h1,h2⟩
 ·left;refine⟨e,?_⟩;have agG:=hd.fw.top i j hi hj;by_cases bS:dk n (start inf E) n i j<inf
  ·exact absurd ((rch _).2 (hd.fw.real i j hi hj bS)) (h _)
  ·omega
 ·right;have:(if dk n (start inf E) n i j<inf then some (dk n (start inf E) n i j)else none)=some L':=hs.unique ⟨(rch L').1 h1,fun L'' hw=>h2 L'' ((rch L'').2 hw)⟩;split at this
  ·simp only[AI]at this;exact⟨by rw[e,this],by omega⟩
  ·cases this
def zA(n:Nat)(r:Nat→Nat):List PV:=(List.range n).map fun j=>.int .i64 (r j)
def oS(n:Nat)(d:Mx):List PV:=(List.range n).map fun i=>.pd 1 (zA n (d i))
theorem tb(n:Nat)(d:Mx):(oS n d).length=n:=by simp[oS]
theorem qR(n:Nat)(r:Nat→Nat):(zA n r).length=n:=by simp[zA]
theorem tc{n i:Nat}(d:Mx)(h:i<n):(oS n d)[i]?=some (.pd 1 (zA n (d i))):=by simp[oS,h]
theorem td{n j:Nat}(r:Nat→Nat)(h:j<n):(zA n r)[j]?=some (.int .i64 (r j)):=by simp[zA,h]
theorem JZ{n i j:Nat}(d:Mx)(x:Nat)(hi:i<n)(hj:j<n):(oS n d).set i (.pd 1 ((zA n (d i)).set j (.int .i64 x)))=oS n (HL d i j x):=by
 apply ag5;intro a;rw[ahb];by_cases e:i=a
 ·subst e;rw[BY rfl,BY (by rw[tb];exact hi),tc _ hi];congr 2;apply ag5;intro b;rw[ahb];by_cases e:j=b
  ·subst e;rw[BY rfl,BY (by rw[qR];exact hj),td _ hj];simp[HL]
  ·rw[IN e];by_cases hb:b<n
   ·rw[td _ hb,td _ hb];simp[HL,Ne.symm e]
   ·rw[afi (by rw[qR];omega),afi (by rw[qR];omega)]
 ·rw[IN e];by_cases ha:a<n
  ·rw[tc _ ha,tc _ ha];congr 2;unfold zA;apply ahc;intro b _;simp[HL,Ne.symm e]
  ·rw[afi (by rw[tb];omega),afi (by rw[tb];omega)]
theorem asR(es:List PV):eK 1 (cell (.pd 1 es) 0)=some es:=rfl
theorem cI(x:Int):cell (.int .i64 x) 0=.int .i64 x:=rfl
theorem ab8(e p:PV):setRow 1 e 0 p=p:=rfl
theorem ab9(q p:PV):setCells 1 q 0 1 p=p:=rfl
theorem Xl(a b:Nat)(hb:b≤4398046511104):(if IntKind.i64.wrap (b:Int)<(a:Int)then IntKind.i64.wrap (b:Int)else(a:Int))=((min a b:Nat):Int):=by rw[br (by omega) (by omega)];split<;>omega
theorem aas(qQ:Int×Int×Int×List PV×Unit→Option PV)(n k i:Nat)(d:Mx)(hn:n≤64)(hk:k<n)(hi:i<n)(hd:∀j,j≤n→∀a b,a<n→b<n→dj k i d j a b≤1099511627776):bx.run (jl qQ) ((n:Int),(k:Int),(i:Int),0,oS n d,())=qQ ((n:Int),(k:Int),IntKind.i64.wrap ((i:Int)+1),oS n (dj k i d n),()):=by
 refine bT (fun j=>((n:Int),(k:Int),(i:Int),(j:Int),oS n (dj k i d j),())) n (fun j hj rec=>?_) (fun rec=>?_) (by unfold rounds;omega) rfl
 ·unfold jl;dsimp only;have hg:decide ((j:Int)<(n:Int))=true:=by simp;omega
  have ii:ab (i:Int) (oS n (dj k i d j)).length:=Cf (by rw[tb];exact hi);have ik:ab (k:Int) (oS n (dj k i d j)).length:=Cf (by rw[tb];exact hk);have ji:ab (j:Int) (zA n (dj k i d j i)).length:=Cf (by rw[qR];exact hj);have ki:ab (k:Int) (zA n (dj k i d j i)).length:=Cf (by rw[qR];exact hk);have jk:ab (j:Int) (zA n (dj k i d j k)).length:=Cf (by rw[qR];exact hj);have b1:=hd j (by omega) i k hi hk;have b2:=hd j (by omega) k j hk hj;have hs:(((dj k i d j i k:Nat):Int)+((dj k i d j k j:Nat):Int))=((dj k i d j i k+dj k i d j k j:Nat):Int):=by omega
  simp only[hg,T1,BY ii,BY ik,afm,tc _ hi,tc _ hk,U,asR,BY ji,BY ki,BY jk,td _ hj,td _ hk,cI,Es,ab8,ab9,hs,Xl _ _ (show dj k i d j i k+dj k i d j k j≤4398046511104 by omega),JZ _ _ hi hj,ah (show j<9223372036854775807 by omega)];rfl
 ·unfold jl;dsimp only;rw[IN (by simp)]
theorem aat(Gq:Int×Int×List PV×Unit→Option PV)(n k:Nat)(d:Mx)(hn:n≤64)(hk:k<n)(hd:∀i,i<n→∀j,j≤n→∀a b,a<n→b<n→dj k i (di n k d i) j a b≤1099511627776):bx.run (jm bx Gq) ((n:Int),(k:Int),0,oS n d,())=Gq ((n:Int),IntKind.i64.wrap ((k:Int)+1),oS n (di n k d n),()):=by
 refine bT (fun i=>((n:Int),(k:Int),(i:Int),oS n (di n k d i),())) n (fun i hi rec=>?_) (fun rec=>?_) (by unfold rounds;omega) rfl
 ·unfold jm;dsimp only;have hg:decide ((i:Int)<(n:Int))=true:=by simp;omega
  rw[BY hg,aas rec n k i _ hn hk hi (hd i hi),ah (by omega)];rfl
 ·unfold jm;dsimp only;rw[IN (by simp)]
theorem aau(n:Nat)(d:Mx)(hn:n≤64)(hd:∀k,k<n→∀i,i<n→∀j,j≤n→∀a b,a<n→b<n→dj k i (di n k (dk n d k) i) j a b≤1099511627776):bx.run (jn bx) ((n:Int),0,oS n d,())=some (.rs 1 ((oS n (dk n d n)).map PV.strip)):=by
 refine bT (fun k=>((n:Int),(k:Int),oS n (dk n d k),())) n (fun k hk rec=>?_) (fun rec=>?_) (by unfold rounds;omega) rfl
 ·unfold jn;dsimp only;have hg:decide ((k:Int)<(n:Int))=true:=by simp;omega
  rw[BY hg,aat rec n k _ hn hk (hd k hk),ah (by omega)];rfl
 ·unfold jn;dsimp only;rw[IN (by simp)]
abbrev zB:Nat:=1099511627776
theorem RZ(n:Nat):List.replicate n (PV.pd 1 (List.replicate n (PV.int .i64 1099511627776)))=oS n (Qn zB):=by
 unfold oS zA Qn;apply ag5;intro i;by_cases hi:i<n
 ·have:(List.range n).map (fun j=>PV.int .i64 ((zB:Nat):Int))=List.replicate n (PV.int .i64 1099511627776):=by
   apply ag5;intro j;by_cases hj:j<n
   ·simp[hj,ag9]
   ·rw[afi (by simp;omega),afi (by simp;omega)]
  simp only[ag9,BY hi,IS,ahS hi,adN];rw[←this]
 ·rw[afi (by simp;omega),afi (by simp;omega)]
theorem R0(n:Nat)(d:Mx):(oS n d).map PV.strip=eP n fun i j=>((d i j:Nat):Int):=by unfold oS eP zA ta;rw[aiK];rfl
theorem Vc(a b:Nat):(if(b:Int)<(a:Int)then(b:Int)else(a:Int))=((min a b:Nat):Int):=by split<;>omega
theorem HM(fr:Bool)(l:List Fp)(p:Fp):counted fr (l++[p])=if(fr&& !p.free)=true then counted fr l else counted fr l++[p.ed]:=by
 unfold counted;rw[aiE,ah8];cases hb:(fr&& !p.free)with
 |true=>simp only[ah2,hb,afj,AT,Xq,ai2,ail,T1,aij]
 |false=>simp only[ah2,hb,agX,AT,Xq,ai2,ail,agP,T1]
theorem zC(l:List Fp)(n:Nat)(hn:n≤64)(hl:l.length≤4096)(h:∀p∈l,p.a<n∧p.b<n)(fr:Bool):fv [.rs 4 (l.map Fp.pv),.int .i64 n,.bool fr]=some (.rs 1 (eP n fun i j=>((dk n (start zB (counted fr l)) n i j:Nat):Int))):=by
 have e0:aQ 4 (.rs 4 (l.map Fp.pv))=some (l.map Fp.pv):=by simp[aQ]
 have hE:∀y∈counted fr l,y.f<n∧y.t<n:=fun y hy=>by obtain⟨p,hp,rfl⟩:=wb hy;exact h p hp
 simp only[fv,qx,e0,U,Es,asBool];refine bT (fun i=>(l.map Fp.pv,(n:Int),fr,(i:Int),List.replicate i (PV.pd 1 (List.replicate n (PV.int .i64 1099511627776))),())) n (fun i hi rec=>?_) (fun rec=>?_) (by unfold rounds;omega) rfl
 ·unfold mL;dsimp only;have hg:decide ((i:Int)<(n:Int))=true:=by simp;omega
  rw[BY hg];refine bT (fun j=>(l.map Fp.pv,(n:Int),fr,(i:Int),(j:Int),List.replicate i (PV.pd 1 (List.replicate n (PV.int .i64 1099511627776))),List.replicate j (PV.int .i64 1099511627776),())) n (fun j hj eU=>?_) (fun eU=>?_) (by unfold rounds;omega) rfl
  ·unfold mM;dsimp only;have hg:decide ((j:Int)<(n:Int))=true:=by simp;omega
   have Ep:List.replicate j (PV.int .i64 1099511627776)++[PV.int .i64 1099511627776]=List.replicate (j+1) (PV.int .i64 1099511627776):=(ajJ ..).symm;rw[BY hg];simp only[Ep,ah0];rw[BY (by unfold aj;omega),ah (by omega)]
  ·unfold mM;dsimp only;have Ep:List.replicate i (PV.pd 1 (List.replicate n (PV.int .i64 1099511627776)))++[PV.pd 1 (List.replicate n (PV.int .i64 1099511627776))]=List.replicate (i+1) (PV.pd 1 (List.replicate n (PV.int .i64 1099511627776))):=(ajJ ..).symm;rw[IN (by simp)];simp only[Ep,ah0];rw[BY (by unfold aj;omega),ah (by omega)]
 ·unfold mL;dsimp only;rw[IN (by simp),RZ];refine bT (fun k=>(l.map Fp.pv,(n:Int),fr,(k:Int),oS n (start zB (counted fr (l.take k))),())) l.length (fun k hk eU=>?_) (fun eU=>?_) (by unfold rounds;omega) rfl
  ·unfold mN;dsimp only;have hg:decide ((k:Int)<((l.map Fp.pv).length:Int))=true:=by simp;omega
   obtain⟨p,hp⟩:∃p,l[k]?=some p:=⟨_,AS hk⟩;have EF:(l.map Fp.pv)[k]?=some p.pv:=by rw[IS,hp];rfl
   have htk:l.take (k+1)=l.take k++[p]:=by rw[ajm,hp];rfl
   obtain⟨pa,pb⟩:=h p (aaQ hp);have hr:(bif p.free then some true else some !fr)=some (!(fr&& !p.free)):=by cases p.free<;>cases fr<;>rfl
   rw[BY hg,aV,EF,U,htk,HM];simp only[fp3,asBool,U,hr];cases hb:(fr&& !p.free)with
   |true=>simp only[afj,AT,Xq,T1,ah (show k<9223372036854775807 by omega)]
   |false=>
    obtain⟨d,hd⟩:∃d,d=start zB (counted fr (l.take k)):=⟨_,rfl⟩;have ia:ab (p.a:Int) (oS n d).length:=Cf (by rw[tb];exact pa);have ib:ab (p.b:Int) (zA n (d p.a)).length:=Cf (by rw[qR];exact pb);have pw:oS n (start zB (counted fr (l.take k)++[p.ed]))=oS n (HL d p.a p.b (min (d p.a p.b) p.c)):=by rw[Ej,←hd];rfl
    simp only[agX,T1,AT,Xq,pw,←hd,fp0,fp1,fp2,Es,U,BY ia,afm,tc _ pa,asR,BY ib,td _ pb,cI,ab8,ab9,Vc,JZ _ _ pa pb,ah (show k<9223372036854775807 by omega)]
  ·unfold mN;dsimp only;rw[IN (by simp),aht,←R0];have aca:=Ek (n:=n) (inf:=zB) (counted fr l);exact aau n _ hn fun k hk i hi j hj a b ha hb=>by have ih:=aca.rounds k (by omega);have:=(RY.rows (k:=k) ⟨ih.fw,ih.low,fun a b ha hb hd=>by omega⟩ hk i (by omega)).row hi hk j hj;exact this.fw.top a b ha hb
def VH(i k:Nat)(s:Int)(b:Bool):PV:=.agg [.int .i64 i,.int .i64 k,.int .i64 s,.bool b]
def BQ(w f:Int)(i k:Nat):List PV:=if i=k∨w>14400 then[]else VH i k w (f==w)::(if f>w∧f≤14400 then[VH i k f true]else[])
def we(n:Nat)(it:Nat→Nat→List PV)(i:Nat):List PV:=(List.range n).flatMap (it i)
def yG(n:Nat)(it:Nat→Nat→List PV)(m:Nat):List PV:=(List.range m).flatMap (we n it)
theorem AN(n:Nat)(it:Nat→Nat→List PV)(i:Nat):we (n+1) it i=we n it i++it i n:=by simp[we,ajz,ajS]
theorem AO(n:Nat)(it:Nat→Nat→List PV)(m:Nat):yG n it (m+1)=yG n it m++we n it m:=by simp[yG,ajz,ajS]
theorem zD{it:Nat→Nat→List PV}(h:∀i k,(it i k).length≤2)(i:Nat):∀k,(we k it i).length≤2*k
 |0=>by simp[we]
 |k+1=>by rw[AN,ag1];have:=zD h i k;have:=h i k;omega
theorem zs{it:Nat→Nat→List PV}(h:∀i k,(it i k).length≤2)(n:Nat):∀m,(yG n it m).length≤2*n*m
 |0=>by simp[yG]
 |m+1=>by rw[AO,ag1,Nat.mul_succ];have:=zs h n m;have:=zD h m n;omega
theorem Hw(w f:Int)(i k:Nat):(BQ w f i k).length≤2:=by
 unfold BQ;split
 ·simp
 ·split<;>simp
theorem Gs{n k:Nat}(D:Nat→Int)(h:k<n):(ta n D)[k]?=some (.int .i64 (D k)):=by simp[ta,h]
theorem AP{n i:Nat}(D:Nat→Nat→Int)(h:i<n):(eP n D)[i]?=some (.rs 1 (ta n (D i))):=by simp[eP,h]
theorem aav(es:List PV):aQ 1 (cell (.rs 1 es) 0)=some es:=by show aQ 1 (.rs 1 es)=some es;simp[aQ]
theorem th{a:List PV}(h:a.length≤16384):a.length*32≤aj∧0<32:=by unfold aj;omega
theorem Oa(AQ:aaw→Option PV)(n i:Nat)(W F:Nat→Nat→Int)(hn:n≤64)(hi:i<n)(acc:List PV)(ae9:acc.length≤8192):bx.run (lk bx AQ) ((n:Int),eP n W,eP n F,(i:Int),0,acc,())=AQ ((n:Int),eP n W,eP n F,IntKind.i64.wrap ((i:Int)+1),acc++we n (fun i k=>BQ (W i k) (F i k) i k) i,()):=by
 refine bT (fun k=>((n:Int),eP n W,eP n F,(i:Int),(k:Int),acc++we k (fun i k=>BQ (W i k) (F i k) i k) i,())) n (fun k hk rec=>?_) (fun rec=>?_) (by unfold rounds;omega) (by simp[we])
 ·unfold lk;dsimp only;have hg:decide ((k:Int)<(n:Int))=true:=by simp;omega
  rw[AN];have hlen:=zD (it:=fun i k=>BQ (W i k) (F i k) i k) (fun i k=>Hw _ _ i k) i k;generalize hA:acc++we k (fun i k=>BQ (W i k) (F i k) i k) i=A;have hAl:A.length≤8192+128:=by rw[←hA,ag1];omega
  rw[←ahk,hA];simp only[hg,T1,aV,AP _ hi,U,aav,Gs _ hk,cI,Es,ah (show k<9223372036854775807 by omega)];generalize W i k=w;generalize F i k=f;by_cases BP:i=k
  ·have hb:((i:Int)==(k:Int))=true:=by simp[BP]
   have BL:BQ w f i k=[]:=BY (.inl BP);simp only[hb,cond_true,U,T1,BL,aij]
  ·have hb:((i:Int)==(k:Int))=false:=by rw[aho];omega
   simp only[hb,cond_false,U];by_cases hw:w>14400
   ·have BL:BQ w f i k=[]:=BY (.inr hw);simp only[hw,ag6,T1,BL,aij]
   ·have hr1:(A++[PV.agg [.int .i64 i,.int .i64 k,.int .i64 w,.bool (f==w)]]).length*32≤aj∧0<32:=th (by simp;omega);simp only[hw,agY,AT,Xq,BY hr1];by_cases hf:f>w
    ·by_cases hf2:f≤14400
     ·have LD:(A++[PV.agg [.int .i64 i,.int .i64 k,.int .i64 w,.bool (f==w)]]++[PV.agg [.int .i64 i,.int .i64 k,.int .i64 f,.bool true]]).length*32≤aj∧0<32:=th (by simp;omega);have BL:BQ w f i k=[VH i k w (f==w),VH i k f true]:=by unfold BQ;rw[IN (by omega),BY ⟨hf,hf2⟩]
      simp only[hf,hf2,ag6,cond_true,U,T1,BY LD,BL];rw[ahk];rfl
     ·have BL:BQ w f i k=[VH i k w (f==w)]:=by unfold BQ;rw[IN (by omega),IN (by omega)]
      simp only[hf,hf2,ag6,agY,cond_true,U,AT,Xq,BL];rfl
    ·have BL:BQ w f i k=[VH i k w (f==w)]:=by unfold BQ;rw[IN (by omega),IN (by omega)]
     simp only[hf,agY,cond_false,U,AT,Xq,BL];rfl
 ·unfold lk;dsimp only;rw[IN (by simp)]
theorem J0(n:Nat)(W F:Nat→Nat→Int)(hn:n≤64):bx.run (ll bx) ((n:Int),eP n W,eP n F,0,[],())=some (.rs 4 (yG n (fun i k=>BQ (W i k) (F i k) i k) n)):=by
 refine bT (fun i=>((n:Int),eP n W,eP n F,(i:Int),yG n (fun i k=>BQ (W i k) (F i k) i k) i,())) n (fun i hi rec=>?_) (fun rec=>?_) (by unfold rounds;omega) rfl
 ·unfold ll;dsimp only;have hg:decide ((i:Int)<(n:Int))=true:=by simp;omega
  have hlen:=zs (it:=fun i k=>BQ (W i k) (F i k) i k) (fun i k=>Hw _ _ i k) n i;have hb:2*n*i≤2*64*64:=aiJ (by omega) (by omega);rw[BY hg,Oa rec n i W F hn hi _ (by omega),AO,ah (by omega)]
 ·unfold ll;dsimp only;rw[IN (by simp)]
def q9(n:Nat)(l:List Fp)(fr:Bool)(i j:Nat):Int:=((dk n (start zB (counted fr l)) n i j:Nat):Int)
theorem Ob(l:List Fp)(n:Nat)(hn:n≤64)(hl:l.length≤4096)(h:∀p∈l,p.a<n∧p.b<n):fI [.rs 4 (l.map Fp.pv),.int .i64 n]=some (.rs 4 (yG n (fun i k=>BQ (q9 n l false i k) (q9 n l true i k) i k) n)):=by
 have e0:aQ 4 (.rs 4 (l.map Fp.pv))=some (l.map Fp.pv):=by simp[aQ]
 have e1:∀es,aQ 1 (.rs 1 es)=some es:=fun es=>by simp[aQ]
 simp only[fI,tI,e0,U,Es,zC l n hn hl h false,zC l n hn hl h true,e1];exact J0 n (q9 n l false) (q9 n l true) hn
def K3(w f:Int)(i k:Nat):List PV:=if i=k then[]else(if 0<w∧w≤14400 then[VH i k w (f==w)]else[])++(if f≠w∧0<f∧f≤14400 then[VH i k f true]else[])
theorem kC.pos{w:Nat→Nat→Nat→Prop}(h:∀i j c,w i j c→1≤c){i j L:Nat}(hw:kC w i j L):1≤L:=by
 cases hw with
 |Eg e=>exact h _ _ _ e
 |snoc _ e=>have:=h _ _ _ e;omega
def Xm(M:Nat)(d w:Int):Prop:=(d= -1∧w=(zB:Int))∨(d=w∧1≤w∧w≤M)
theorem acb{M:Nat}(hM:M<zB){d0 d1 w f:Int}(h0:Xm M d0 w)(h1:Xm M d1 f)(Vy:d1≠-1→d0≠-1∧d0≤d1)(i k:Nat):K3 d0 d1 i k=BQ w f i k:=by
 unfold K3 BQ;by_cases BP:i=k
 ·rw[BY BP,BY (.inl BP)]
 ·rw[IN BP];have hM:(M:Int)<1099511627776:=by have:M<1099511627776:=hM;omega
  have afa:((zB:Nat):Int)=1099511627776:=rfl;rw[Xm,afa]at h0 h1;rcases h0 with⟨e0,w0⟩|⟨e0,w1,w2⟩
  ·have e1:d1= -1:=by
    by_cases h:d1= -1
    ·exact h
    ·exact absurd e0 (Vy h).1
   rw[IN (by omega),IN (by omega),BY (.inr (by omega))];rfl
  ·subst e0;rcases h1 with⟨e1,f0⟩|⟨e1,f1,f2⟩
   ·by_cases hw:d0≤14400
    ·have b1:(d1==d0)=false:=by rw[aho];omega
     have b2:(f==d0)=false:=by rw[aho];omega
     rw[BY ⟨by omega,hw⟩,IN (by omega),IN (by omega),IN (by omega),b1,b2];rfl
    ·rw[IN (by omega),IN (by omega),BY (.inr (by omega))];rfl
   ·subst e1;have hle:=(Vy (by omega)).2;by_cases hw:d0≤14400
    ·rw[BY ⟨by omega,hw⟩,IN (show¬(i=k∨d0>14400) by omega)];by_cases hf:d1>d0∧d1≤14400
     ·rw[BY hf,BY ⟨by omega,by omega,by omega⟩];rfl
     ·rw[IN hf,IN (by omega)];rfl
    ·rw[IN (by omega),IN (by omega),BY (.inr (by omega))];rfl
theorem Qo{l:List Fp}{n B:Nat}(hn:n≤64)(hB:B≤1073741824)(h:∀p∈l,p.a<n∧p.b<n∧1≤p.c∧p.c≤B)(fr:Bool){i k:Nat}(hi:i<n)(hk:k<n)(BP:i≠k){d:Int}(hd:N9 (counted fr l) (B*n) i k d):Xm (B*n) d (q9 n l fr i k):=by
 have hE:∀y∈counted fr l,y.f<n∧y.t<n∧1≤y.c:=fun y hy=>by obtain⟨p,hp,rfl⟩:=wb hy;obtain⟨a,b,c,_⟩:=h p hp;exact⟨a,b,c⟩
 have hM:B*n<zB:=by have:B*n≤1073741824*64:=aiJ hB hn;show B*n<1099511627776;omega
 rcases Xk (inf:=zB) (fun y hy=>⟨(hE y hy).1,(hE y hy).2.1⟩) hM hi hk BP hd with⟨e1,e2⟩|⟨e1,e2⟩
 ·exact .inl ⟨e1,by unfold q9;rw[e2]⟩
 ·refine .inr ⟨e1,?_,by unfold q9;omega⟩;rcases hd with⟨e,_⟩|⟨L,e,_,hr,_⟩
  ·omega
  ·have:1≤L:=by
    rcases hr with⟨h,_⟩|hw
    ·exact absurd h.symm BP
    ·exact hw.pos fun a b c hc=>(hE _ hc).2.2
   unfold q9;omega
theorem Xn{l:List Fp}{M i k:Nat}{d0 d1:Int}(h0:N9 (counted false l) M i k d0)(h1:N9 (counted true l) M i k d1)(cL:d1≠-1):d0≠-1∧d0≤d1:=by
 have sub:∀y,y∈counted true l→y∈counted false l:=fun y hy=>by unfold counted at hy⊢;obtain⟨p,hp,rfl⟩:=agZ.1 hy;exact agZ.2 ⟨p,aii.2 ⟨(aii.1 hp).1,rfl⟩,rfl⟩
 rcases h1 with⟨e,_⟩|⟨L1,e1,_,r1,_⟩
 ·exact absurd e cL
 ·have r:=r1.mem sub;rcases h0 with⟨_,h⟩|⟨L0,e0,_,_,m0⟩
  ·exact absurd r (h L1)
  ·have:=m0 L1 r;omega
theorem Qp(w f:Int)(i k:Nat):(K3 w f i k).length≤2:=by
 unfold K3;split
 ·simp
 ·rw[ag1];split<;>split<;>simp
theorem R1(AQ:TY8→Option PV)(n i:Nat)(W F:Nat→Nat→Int)(hn:n≤64)(hi:i<n)(acc:List PV)(ae9:acc.length≤8192):bx.run (gD bx AQ) (eP n W,eP n F,(i:Int),(n:Int),(i:Int),ta n (W i),(n:Int),0,acc,())=AQ (eP n W,eP n F,(n:Int),IntKind.i64.wrap ((i:Int)+1),acc++we n (fun i k=>K3 (W i k) (F i k) i k) i,()):=by
 refine bT (fun k=>(eP n W,eP n F,(i:Int),(n:Int),(i:Int),ta n (W i),(n:Int),(k:Int),acc++we k (fun i k=>K3 (W i k) (F i k) i k) i,())) n (fun k hk rec=>?_) (fun rec=>?_) (by unfold rounds;omega) (by simp[we])
 ·unfold gD;dsimp only;have hg:decide ((k:Int)<(n:Int))=true:=by simp;omega
  rw[AN];have hlen:=zD (it:=fun i k=>K3 (W i k) (F i k) i k) (fun i k=>Qp _ _ i k) i k;generalize hA:acc++we k (fun i k=>K3 (W i k) (F i k) i k) i=A;have hAl:A.length≤8192+128:=by rw[←hA,ag1];omega
  rw[←ahk,hA];simp only[hg,T1,aV,Gs _ hk,AP _ hi,U,aav,cI,Es,ah (show k<9223372036854775807 by omega)];generalize W i k=w;generalize F i k=f;by_cases BP:i=k
  ·have hb:((i:Int)==(k:Int))=true:=by simp[BP]
   have BL:K3 w f i k=[]:=BY BP;simp only[hb,T1,BL,aij]
  ·have hb:((i:Int)==(k:Int))=false:=by rw[aho];omega
   have hand:∀x:Int,(bif decide (x>0)then some (decide (x≤14400))else some false)=some (decide (0<x∧x≤14400)):=fun x=>by
    by_cases h1:x>0
    ·have:(0<x∧x≤14400)↔x≤14400:=⟨fun h=>h.2,fun h=>⟨h1,h⟩⟩;rw[ahy h1,cond_true,decide_eq_decide.2 this.symm]
    ·have:¬(0<x∧x≤14400):=fun h=>h1 h.1;rw[ahf h1,cond_false,ahf this]
   have hr1:(A++[PV.agg [.int .i64 i,.int .i64 k,.int .i64 w,.bool (f==w)]]).length*32≤aj∧0<32:=th (by simp;omega);have LD:(A++[PV.agg [.int .i64 i,.int .i64 k,.int .i64 w,.bool (f==w)]]++[PV.agg [.int .i64 i,.int .i64 k,.int .i64 f,.bool true]]).length*32≤aj∧0<32:=th (by simp;omega);have Wd:(A++[PV.agg [.int .i64 i,.int .i64 k,.int .i64 f,.bool true]]).length*32≤aj∧0<32:=th (by simp;omega);have cL:(f !=w)=decide (f≠w):=by
    by_cases h:f=w
    ·simp[h]
    ·simp[h]
   have BL:K3 w f i k=(if 0<w∧w≤14400 then[VH i k w (f==w)]else[])++(if f≠w∧0<f∧f≤14400 then[VH i k f true]else[]):=IN BP;simp only[hb,AT,Xq,hand,U,cL,No,BL,BY hr1,BY LD,BY Wd];by_cases h1:0<w∧w≤14400
   ·by_cases h2:f≠w
    ·by_cases h3:0<f∧f≤14400
     ·rw[BY h1,BY h2,BY h3,BY h1,BY ⟨h2,h3⟩,ahk];rfl
     ·rw[BY h1,BY h2,IN h3,BY h1,IN (fun h=>h3 h.2)];rfl
    ·rw[BY h1,IN h2,BY h1,IN (fun h=>h2 h.1)];rfl
   ·by_cases h2:f≠w
    ·by_cases h3:0<f∧f≤14400
     ·rw[IN h1,BY h2,BY h3,IN h1,BY ⟨h2,h3⟩];rfl
     ·rw[IN h1,BY h2,IN h3,IN h1,IN (fun h=>h3 h.2)];simp
    ·rw[IN h1,IN h2,IN h1,IN (fun h=>h2 h.1)];simp
 ·unfold gD;dsimp only;rw[IN (by simp)]
theorem Oc(n:Nat)(W F:Nat→Nat→Int)(hn:n≤64){es':List PV}(hs:vi 4 (fun c a b=>bQ [a,b]) (yG n (fun i k=>K3 (W i k) (F i k) i k) n)=some es'):bx.run (gE bx) (eP n W,eP n F,(n:Int),0,[],())=some (.rs 4 es'):=by
 have hlen:∀i,i≤n→(yG n (fun i k=>K3 (W i k) (F i k) i k) i).length≤8192:=fun i hi=>by have h1:=zs (it:=fun i k=>K3 (W i k) (F i k) i k) (fun i k=>Qp _ _ i k) n i;have hb:2*n*i≤2*64*64:=aiJ (by omega) (by omega);omega
 refine bT (fun i=>(eP n W,eP n F,(n:Int),(i:Int),yG n (fun i k=>K3 (W i k) (F i k) i k) i,())) n (fun i hi rec=>?_) (fun rec=>?_) (by unfold rounds;omega) rfl
 ·unfold gE;dsimp only;have hg:decide ((i:Int)<(n:Int))=true:=by simp;omega
  have Yd:((ta n (W i)).length:Int)=(n:Int):=by simp[ta]
  rw[BY hg,aV,AP _ hi,U,aav,U,Yd,R1 rec n i W F hn hi _ (hlen i (by omega)),AO,ah (by omega)]
 ·unfold gE;dsimp only;have h:=hlen n (agM _);rw[IN (by simp),BY (by(first|refine⟨rfl,?_,rfl⟩|refine⟨rfl,?_⟩);unfold aj;omega),hs];rfl
def kI:PV→Int
 |.int _ n=>n
 |_=>0
def c3(x y:Int):Int:=if x<y then-1 else if x>y then 1 else 0
def or3(a b c:Int):Int:=if a≠0 then a else if b≠0 then b else c
def YE(a b:List PV):Int:=or3 (c3 (kI (a.getD 0 .bad)) (kI (b.getD 0 .bad))) (c3 (kI (a.getD 1 .bad)) (kI (b.getD 1 .bad))) (c3 (kI (a.getD 2 .bad)) (kI (b.getD 2 .bad)))
theorem Od(x y:Int):dN [.int .i64 x,.int .i64 y]=some (.int .i64 (c3 x y)):=by
 have h:∀z:Int,¬(z !=z)=true:=fun z=>by simp
 simp only[dN,oG,Es,U,IN (h x),IN (h y),No];unfold c3;split
 ·rfl
 ·split<;>rfl
theorem acd(a b c:Int):mO [.rs 1 [.int .i64 a,.int .i64 b,.int .i64 c]]=some (.int .i64 (or3 a b c)):=by
 have e0:aQ 1 (.rs 1 [.int .i64 a,.int .i64 b,.int .i64 c])=some [.int .i64 a,.int .i64 b,.int .i64 c]:=by simp[aQ]
 simp only[mO,yb,e0,U];obtain⟨es,Ft⟩:∃es,es=[PV.int .i64 a,.int .i64 b,.int .i64 c]:=⟨_,rfl⟩;have hl:((es.length:Nat):Int)=3:=by rw[Ft];rfl
 rw[←Ft];have hb:∀(k:Nat)(x:Int),es[k]?=some (.int .i64 x)→k<3→∀rec,ev (0,es,((es.length:Nat):Int),(k:Int),()) rec=if x≠0 then some (.int .i64 x)else rec (0,es,((es.length:Nat):Int),((k+1:Nat):Int),()):=fun k x hx hk rec=>by
  unfold ev;dsimp only;have hg:decide ((k:Int)<((es.length:Nat):Int))=true:=by rw[hl];simp;omega
  rw[BY hg,aV,hx,U,cI,Es,U,ah (by omega)];by_cases h:x=0
  ·subst h;rfl
  ·have:(x !=0)=true:=by simpa using h
   rw[BY this,BY h]
 have he:∀rec,ev (0,es,((es.length:Nat):Int),((3:Nat):Int),()) rec=some (.int .i64 0):=fun rec=>by
  unfold ev;dsimp only;have hg:¬decide (((3:Nat):Int)<((es.length:Nat):Int))=true:=by rw[hl];decide
  rw[IN hg]
 have hN:rounds=18446744073709551612+1+1+1+1:=rfl;rw[lX,hN];generalize 18446744073709551612=N;show ev (0,es,((es.length:Nat):Int),((0:Nat):Int),()) _=_;rw[hb 0 a (by rw[Ft];rfl) (by omega)];unfold or3;by_cases h1:a≠0
 ·rw[BY h1,BY h1]
 ·rw[IN h1,IN h1];show ev (0,es,((es.length:Nat):Int),((1:Nat):Int),()) _=_;rw[hb 1 b (by rw[Ft];rfl) (by omega)];by_cases h2:b≠0
  ·rw[BY h2,BY h2]
  ·rw[IN h2,IN h2];show ev (0,es,((es.length:Nat):Int),((2:Nat):Int),()) _=_;rw[hb 2 c (by rw[Ft];rfl) (by omega)];by_cases h3:c≠0
   ·rw[BY h3]
   ·rw[IN h3];show ev (0,es,((es.length:Nat):Int),((3:Nat):Int),()) _=_;rw[he];have:c=0:=Decidable.not_not.1 h3;rw[this]
def Sj(i k:Nat)(s:Int)(b:Bool):List PV:=[.int .i64 i,.int .i64 k,.int .i64 s,.bool b]
theorem Vd(i k:Nat)(s:Int)(b:Bool)(i' k':Nat)(s':Int)(b':Bool):bQ [wT (Sj i k s b),wT (Sj i' k' s' b')]=some (.int .i64 (YE (Sj i k s b) (Sj i' k' s' b'))):=by have a:∀(w x y z:PV),asAgg 4 (.agg [w,x,y,z])=some ():=fun _ _ _ _=>rfl;have a0:∀(w x y z:PV),cell (.agg [w,x,y,z]) 0=w:=fun _ _ _ _=>rfl;have a1:∀(w x y z:PV),cell (.agg [w,x,y,z]) 1=x:=fun _ _ _ _=>rfl;have a2:∀(w x y z:PV),cell (.agg [w,x,y,z]) 2=y:=fun _ _ _ _=>rfl;have a3:∀(w x y z:PV),cell (.agg [w,x,y,z]) 3=z:=fun _ _ _ _=>rfl;simp only[bQ,lC,wT,Sj,a,a0,a1,a2,a3,Es,asBool,U,Od,acd];rfl
theorem Oe(x y:Int):(c3 x y<0↔x<y)∧(c3 x y=0↔x=y):=by unfold c3;split<;>(try split)<;>constructor<;>constructor<;>intro h<;>first|omega|(exfalso;omega)
theorem AR(i k:Nat)(s:Int)(b:Bool)(i' k':Nat)(s':Int)(b':Bool):YE (Sj i k s b) (Sj i' k' s' b')<0↔i<i'∨(i=i'∧(k<k'∨(k=k'∧s<s'))):=by
 show or3 (c3 (i:Int) (i':Int)) (c3 (k:Int) (k':Int)) (c3 s s')<0↔_;have h1:=Oe (i:Int) (i':Int);have h2:=Oe (k:Int) (k':Int);have h3:=Oe s s';unfold or3;split
 ·constructor<;>intro h<;>omega
 ·split
  ·constructor<;>intro h<;>omega
  ·constructor<;>intro h<;>omega
def IsF(e:List PV):Prop:=∃i k s b,e=Sj i k s b
variable{ns:List (List PV)}
theorem Of(h:ns.Pairwise fun a b=>YE a b<0):∀a∈ns,∀b∈ns,¬YE a b<0→¬YE b a<0→a=b:=by
 induction h with
 |nil=>intro a ha;cases ha
 | @cons x l hx _ ih=>
  intro a ha b hb h1 h2;rcases afh.1 ha with ea|XN
  ·rcases afh.1 hb with eb|gX
   ·rw[ea,eb]
   ·rw[ea]at h1;exact absurd (hx b gX) h1
  ·rcases afh.1 hb with eb|gX
   ·rw[eb]at h2;exact absurd (hx a XN) h2
   ·exact ih a XN b gX h1 h2
theorem J1(hF:∀e∈ns,IsF e)(h:ns.Pairwise fun a b=>YE a b<0):ke 4 (fun c a b=>bQ [a,b]) ns ns YE where
 len a ha:=by obtain⟨i,k,s,b,rfl⟩:=hF a ha;rfl
 SZ a ha p hp:=by obtain⟨i,k,s,b,rfl⟩:=hF a ha;simp only[Sj,afh,ahK,ai8]at hp;rcases hp with rfl|rfl|rfl|rfl<;>rfl
 perm:=List.Perm.refl _
 reads c _ _ a ha b hb:=by obtain⟨i,k,s,q,rfl⟩:=hF a ha;obtain⟨i',k',s',q',rfl⟩:=hF b hb;exact Vd ..
 irrefl a ha:=by obtain⟨i,k,s,q,rfl⟩:=hF a ha;rw[AR];omega
 trans a ha b hb c hc h1 h2:=by obtain⟨i,k,s,q,rfl⟩:=hF a ha;obtain⟨i',k',s',q',rfl⟩:=hF b hb;obtain⟨i2,k2,s2,q2,rfl⟩:=hF c hc;rw[AR]at*;omega
 total:=Of h
 sorted:=h.imp_of_mem fun{a b}ha hb sl=>by obtain⟨i,k,s,q,rfl⟩:=hF a ha;obtain⟨i',k',s',q',rfl⟩:=hF b hb;rw[AR]at*;omega
def itC(w f:Int)(i k:Nat):List (List PV):=if i=k∨w>14400 then[]else Sj i k w (f==w)::(if f>w∧f≤14400 then[Sj i k f true]else[])
theorem Xo(w f:Int)(i k:Nat):(itC w f i k).map wT=BQ w f i k:=by
 unfold itC BQ;split
 ·rfl
 ·split<;>rfl
def EL(n:Nat)(W F:Nat→Nat→Int):List (List PV):=(List.range n).flatMap fun i=>(List.range n).flatMap fun k=>itC (W i k) (F i k) i k
theorem AG(n:Nat)(W F:Nat→Nat→Int):eo (EL n W F)=yG n (fun i k=>BQ (W i k) (F i k) i k) n:=by unfold eo EL yG we;rw[List.map_flatMap];congr 1;funext i;rw[List.map_flatMap];congr 1;funext k;exact Xo ..
theorem zF{w f:Int}{i k:Nat}{e:List PV}(h:e∈itC w f i k):∃s b,e=Sj i k s b:=by
 unfold itC at h;split at h
 ·cases h
 ·rcases afh.1 h with rfl|h
  ·exact⟨_,_,rfl⟩
  ·split at h
   ·simp at h;subst h;exact⟨_,_,rfl⟩
   ·cases h
theorem JI(n:Nat)(W F:Nat→Nat→Int):∀e∈EL n W F,IsF e:=fun e h=>by obtain⟨i,_,h⟩:=aiS.1 h;obtain⟨k,_,h⟩:=aiS.1 h;obtain⟨s,b,rfl⟩:=zF h;exact⟨i,k,s,b,rfl⟩
theorem J2(n:Nat)(W F:Nat→Nat→Int):(EL n W F).Pairwise fun a b=>YE a b<0:=by
 unfold EL;rw[ajB];refine⟨fun i _=>?_,List.pairwise_lt_range.imp fun{i i'}Sd x hx y hy=>?_⟩
 ·rw[ajB];refine⟨fun k _=>?_,List.pairwise_lt_range.imp fun{k k'}Bd x hx y hy=>?_⟩
  ·unfold itC;split
   ·exact .nil
   ·split
    ·rename_i h;refine ahw.2 ⟨fun y hy=>?_,ajt ..⟩;simp at hy;subst hy;rw[AR];omega
    ·exact ajt ..
  ·obtain⟨s,b,rfl⟩:=zF hx;obtain⟨s',b',rfl⟩:=zF hy;rw[AR];omega
 ·obtain⟨k,_,hx⟩:=aiS.1 hx;obtain⟨k',_,hy⟩:=aiS.1 hy;obtain⟨s,b,rfl⟩:=zF hx;obtain⟨s',b',rfl⟩:=zF hy;rw[AR];omega
theorem NW(l:List Fp)(n:Nat)(hn:n≤64)(hl:l.length≤4096)(h:∀p∈l,p.a<n∧p.b<n∧1≤p.c∧p.c≤14400):ek [.rs 4 (l.map Fp.pv),.int .i64 n]=some (.rs 4 (eo (EL n (q9 n l false) (q9 n l true))))∧fI [.rs 4 (l.map Fp.pv),.int .i64 n]=some (.rs 4 (eo (EL n (q9 n l false) (q9 n l true)))):=by
 have hr:=Ob l n hn hl fun p hp=>⟨(h p hp).1,(h p hp).2.1⟩;rw[←AG]at hr;refine⟨?_,hr⟩;have hB:(14400:Nat)≤1073741824:=by omega
 obtain⟨D0,d0,e0⟩:=Qm l n 14400 hn hl hB (fun p hp=>⟨(h p hp).1,(h p hp).2.1,(h p hp).2.2.2⟩) false;obtain⟨D1,d1,e1⟩:=Qm l n 14400 hn hl hB (fun p hp=>⟨(h p hp).1,(h p hp).2.1,(h p hp).2.2.2⟩) true;have hM:14400*n<zB:=by show 14400*n<1099511627776;omega
 have LR:yG n (fun i k=>K3 (D0 i k) (D1 i k) i k) n=eo (EL n (q9 n l false) (q9 n l true)):=by
  rw[AG];unfold yG we;rw[aiR,aiR];congr 1;apply ahc;intro i hi;rw[aiR,aiR];congr 1;apply ahc;intro k hk;have hi:=aib.1 hi;have hk:=aib.1 hk;dsimp only;by_cases BP:i=k
  ·rw[show K3 (D0 i k) (D1 i k) i k=[]from BY BP,show BQ (q9 n l false i k) (q9 n l true i k) i k=[]from BY (.inl BP)]
  ·exact acb hM (Qo hn hB h false hi hk BP (d0 i k hi hk)) (Qo hn hB h true hi hk BP (d1 i k hi hk)) (Xn (d0 i k hi hk) (d1 i k hi hk)) i k
 have a0:aQ 4 (.rs 4 (l.map Fp.pv))=some (l.map Fp.pv):=by simp[aQ]
 have a1:∀es,aQ 1 (.rs 1 es)=some es:=fun es=>by simp[aQ]
 have hlen:((eP n D0).length:Int)=(n:Int):=by simp[eP]
 simp only[ek,nf,a0,Es,U,e0,e1,a1,hlen];exact Oc n D0 D1 hn (by rw[LR];exact Rk (J1 (JI _ _ _) (J2 _ _ _)))
end Go.Ab.Nw
