import Derived.Test.YtmbihgjlollbeaaGreatNwP1
namespace Go.Ab.Nw
set_option maxRecDepth 100000
set_option linter.unusedVariables false
set_option linter.unusedSimpArgs false
def Pu(E:List Ed)(M:Nat)(s v:Nat)(d:Int):Prop:=(d= -1∧∀L,¬IC E s v L)∨∃L:Nat,d=L∧L≤M∧IC E s v L∧∀L',IC E s v L'→L≤L'
theorem Pu.unique{E:List Ed}{M M' s v:Nat}{d d':Int}(h:Pu E M s v d)(h':Pu E M' s v d'):d=d':=by
 rcases h with⟨e,h⟩|⟨L,e,_,h1,h2⟩
 ·rcases h' with⟨e',_⟩|⟨L',_,_,WK,_⟩
  ·rw[e,e']
  ·exact absurd WK (h L')
 ·rcases h' with⟨_,h'⟩|⟨L',e',_,WK,h2'⟩
  ·exact absurd h1 (h' L)
  ·rw[e,e',Nat.le_antisymm (h2 _ WK) (h2' _ h1)]
theorem IC.mem{E E':List Ed}(h:∀y,y∈E→y∈E'){s v L:Nat}(hr:IC E s v L):IC E' s v L:=by
 rcases hr with hr|hr
 ·exact .inl hr
 ·exact .inr (hr.mono fun i j c hc=>h _ hc)
theorem Pu.mem{E E':List Ed}(h:∀y,y∈E↔y∈E'){M s v:Nat}{d:Int}(hd:Pu E M s v d):Pu E' M s v d:=by
 rcases hd with⟨e,h1⟩|⟨L,e,hM,h1,h2⟩
 ·exact .inl ⟨e,fun L hL=>h1 L (hL.mem fun y hy=>(h y).2 hy)⟩
 ·exact .inr ⟨L,e,hM,h1.mem fun y hy=>(h y).1 hy,fun L' hL=>h2 L' (hL.mem fun y hy=>(h y).2 hy)⟩
def td(n:Nat)(D:Nat→Int):List PV:=(List.range n).map fun v=>.int .i64 (D v)
def eR(n:Nat)(D:Nat→Nat→Int):List PV:=(List.range n).map fun s=>.rs 1 (td n (D s))
variable{D:Nat→Nat→Int}
theorem Lb{n:Nat}{D':Nat→Nat→Int}(h:∀s v,s<n→v<n→D s v=D' s v):eR n D=eR n D':=by unfold eR;apply ai7;intro s hs;unfold td;congr 1;apply ai7;intro v hv;rw[h s v (ajV.1 hs) (ajV.1 hv)]
theorem V3(E:List Ed)(n B:Nat)(hn:n≤64)(hE:E.length≤4096)(hB:B≤1073741824)(h:∀y∈E,y.f<n∧y.t<n∧y.c≤B):∃D:Nat→Nat→Int,(∀s v,s<n→v<n→Pu E (B*n) s v (D s v))∧fG [.int .i64 n,.rs 3 (E.map Ed.pv)]=some (.aP [.rs 1 (eR n D),.int .i64 0]):=by
 have h':∀y∈E,y.f<n∧y.t<n∧y.c≤1073741824:=fun y hy=>⟨(h y hy).1,(h y hy).2.1,by have:=(h y hy).2.2;omega⟩;have hG:=V2 E n hn hE h';have each:∀s,∃o:nd,s<n→(∃pu,DI E n s B o pu [])∧eQ [.int .i64 n,.rm 3 ((GI (xh E)).map fun x=>x.1) ((GI (xh E)).map fun x=>x.2.mR),.int .i64 s]=some (.rs 3 (dF n o)):=fun s=>by
  by_cases hs:s<n
  ·obtain⟨o,pu,h1,h2⟩:=S7 hG hs hB (fun y hy=>(h y hy).2.2) hn;exact⟨o,fun _=>⟨⟨pu,h1⟩,h2⟩⟩
  ·exact⟨fun _=>none,fun h=>absurd h hs⟩
 obtain⟨o,ho⟩:=Classical.axiomOfChoice each;refine⟨fun s v=>IE (o s v),fun s v hs hv=>?_,?_⟩
 ·obtain⟨⟨pu,hI⟩,_⟩:=ho s hs;have:=hI.done h hv;cases hl:o s v with
  |none=>rw[hl]at this;exact .inl ⟨by dsimp only;rw[hl];rfl,this⟩
  |some p=>obtain⟨L,e⟩:=p;rw[hl]at this;exact .inr ⟨L,by dsimp only;rw[hl];rfl,this.1,this.2.1,this.2.2⟩
 ·have e0:ay 3 (.rs 3 (E.map Ed.pv))=some (E.map Ed.pv):=by simp[ay]
  have gn:(0:Int)≤(n:Int)∧(n:Int)≤(n:Int)∧n*24≤ar∧0<24∧0<1:=by refine⟨by omega,by omega,?_,by omega,by omega⟩;unfold ar;omega
  have hz:((0:Int) !=0)=false:=rfl;simp only[fG,tR,E6,e0,U,V0 E n hn hE h',hz,cT,T1,IH E hE,df,IS,aiP,AI gn,ajF];refine bV (fun k=>((n:Int),PV.rm 3 ((GI (xh E)).map fun x=>x.1) ((GI (xh E)).map fun x=>x.2.mR),(n:Int),(k:Int),rL n k (fun s=>.rs 1 (td n fun v=>IE (o s v))) (.rs 0 []),())) n (fun k hk rec=>?_) (fun rec=>?_) (by unfold rounds;omega) ?_
  ·unfold kH;dsimp only;have hg:decide ((k:Int)<(n:Int))=true:=by simp;omega
   have e3:ay 3 (.rs 3 (dF n (o k)))=some (dF n (o k)):=by simp[ay]
   have e1:ay 1 (.rs 1 ((List.range n).map fun v=>PV.int .i64 (IE (o k v))))=some ((List.range n).map fun v=>PV.int .i64 (IE (o k v))):=by simp[ay]
   rw[AI hg,(ho k hk).2,U,e3,U,Pt n hn,U,e1,U,AI (CV (by rw[K7];exact hk)),aiP,K8 hk,U,aO (by omega)];have:=K9 (F:=fun s=>PV.rs 1 (td n fun v=>IE (o s v))) (z:=.rs 0 []) hk;unfold td at this⊢;rw[this]
  ·unfold kH;dsimp only;rw[By (by simp),La];rfl
  ·rw[GH];rfl
theorem V4(E E':List Ed)(n B:Nat)(hn:n≤64)(hE:E'.length≤4096)(hB:B≤1073741824)(h:∀y∈E,y.f<n∧y.t<n∧y.c≤B)(he:∀y,y∈E↔y∈E')(hD:∀s v,s<n→v<n→Pu E (B*n) s v (D s v)):fG [.int .i64 n,.rs 3 (E'.map Ed.pv)]=some (.aP [.rs 1 (eR n D),.int .i64 0]):=by obtain⟨D',d1,d2⟩:=V3 E' n B hn hE hB fun y hy=>h y ((he y).2 hy);rw[d2,Lb fun s v hs hv=>((hD s v hs hv).mem he).unique (d1 s v hs hv)]
structure Fp where
 a:Nat
 b:Nat
 c:Nat
 free:Bool
 deriving DecidableEq
def Fp.pv(p:Fp):PV:=.agg [.int .i64 p.a,.int .i64 p.b,.int .i64 p.c,.bool p.free]
theorem fp0(p:Fp):cell p.pv 0=.int .i64 p.a:=rfl
theorem fp1(p:Fp):cell p.pv 1=.int .i64 p.b:=rfl
theorem fp2(p:Fp):cell p.pv 2=.int .i64 p.c:=rfl
theorem fp3(p:Fp):cell p.pv 3=.bool p.free:=rfl
def Fp.ed(p:Fp):Ed:=⟨p.a,p.b,p.c⟩
def yO(z:Ed):List Ed→List Ed
 |[]=>[z]
 |e::r=>if z.f=e.f∧z.t=e.t then z::r else e::yO z r
def Ai(a b:Nat):List Ed→Option Nat
 |[]=>none
 |e::r=>if a=e.f∧b=e.t then some e.c else Ai a b r
theorem EM(a b:Nat)(z:Ed):∀m,Ai a b (yO z m)=if a=z.f∧b=z.t then some z.c else Ai a b m
 |[]=>rfl
 |e::r=>by
  simp only[yO];by_cases h:z.f=e.f∧z.t=e.t
  ·rw[AI h];simp only[Ai];by_cases h2:a=z.f∧b=z.t
   ·rw[AI h2,AI h2]
   ·rw[By h2,By h2,By (by rw[←h.1,←h.2];exact h2)]
  ·rw[By h];simp only[Ai];by_cases h2:a=e.f∧b=e.t
   ·rw[AI h2,By (by rw[h2.1,h2.2];rintro⟨x,y⟩;exact h ⟨x.symm,y.symm⟩),AI h2]
   ·rw[By h2,By h2];exact EM a b z r
theorem Lc(z e:Ed):∀m,e∈yO z m→e=z∨e∈m
 |[],h=>by simp[yO]at h;exact .inl h
 |x::r,h=>by
  simp only[yO]at h;split at h
  ·rcases abX.1 h with h|h
   ·exact .inl h
   ·exact .inr (by simp[h])
  ·rcases abX.1 h with h|h
   ·exact .inr (by simp[h])
   ·rcases Lc z e r h with h|h
    ·exact .inl h
    ·exact .inr (by simp[h])
theorem Ld{a b x:Nat}:∀{m:List Ed},Ai a b m=some x→∃e∈m,e.f=a∧e.t=b∧e.c=x
 |[],h=>by cases h
 |e::r,h=>by
  simp only[Ai]at h;split at h
  ·rename_i h2;cases h;exact⟨e,by simp,h2.1.symm,h2.2.symm,rfl⟩
  ·obtain⟨e',h1,h2⟩:=Ld h;exact⟨e',by simp[h1],h2⟩
theorem Le(z:Ed):∀m,(yO z m).length≤m.length+1
 |[]=>by simp[yO]
 |e::r=>by
  simp only[yO];split
  ·simp
  ·have:=Le z r;simp;omega
def Rr(fr:Bool)(m:List Ed)(p:Fp):List Ed:=if(fr&& !p.free)=true then m else match Ai p.a p.b m with
 |none=>yO p.ed m
 |some x=>if p.c<x then yO p.ed m else m
def kW(fr:Bool)(l:List Fp):List Ed:=l.foldl (Rr fr) []
theorem GM(fr:Bool)(l:List Fp)(p:Fp):kW fr (l++[p])=Rr fr (kW fr l) p:=by simp[kW]
def counted(fr:Bool)(l:List Fp):List Ed:=(l.filter fun p=> !(fr&& !p.free)).map Fp.ed
theorem Rs(fr:Bool)(l:List Fp):(∀e∈kW fr l,e∈counted fr l)∧(∀e∈counted fr l,∃x,Ai e.f e.t (kW fr l)=some x∧x≤e.c)∧(kW fr l).length≤l.length:=by
 rw[←akE l];induction l.reverse with
 |nil=>exact⟨(fun e h=>by simp[kW]at h),(fun e h=>by simp[counted]at h),aiJ _⟩
 |cons p l ih=>
  rw[ak1,GM];obtain⟨i1,i2,i3⟩:=ih;have hc:counted fr (l.reverse++[p])=counted fr l.reverse++(if(fr&& !p.free)=true then[]else[p.ed]):=by
   unfold counted;rw[akn,akI];congr 1;cases hb:(fr&& !p.free)with
   |true=>simp only[ajG,hb,aiK,cT,T1,akL,akk,IS]
   |false=>simp only[ajG,hb,ai4,cT,T1,akL,akk,aiL,IS]
  rw[hc];unfold Rr;by_cases h:(fr&& !p.free)=true
  ·rw[AI h,AI h];exact⟨fun e he=>by simpa using i1 e he,fun e he=>i2 e (by simpa using he),by simp at i3⊢;omega⟩
  ·rw[By h,By h];have put:(∀e∈yO p.ed (kW fr l.reverse),e∈counted fr l.reverse++[p.ed]):=fun e he=>by
    rcases Lc _ _ _ he with rfl|he
    ·simp
    ·exact ake _ (i1 e he)
   have len:(yO p.ed (kW fr l.reverse)).length≤(l.reverse++[p]).length:=by have:=Le p.ed (kW fr l.reverse);simp at i3⊢;omega
   cases hb:Ai p.a p.b (kW fr l.reverse)with
   |none=>
    refine⟨put,fun e he=>?_,len⟩;rw[EM];by_cases hk:e.f=p.ed.f∧e.t=p.ed.t
    ·rw[AI hk];rcases aiW.1 he with he|he
     ·obtain⟨x,h1,_⟩:=i2 e he;rw[hk.1,hk.2]at h1;rw[show p.ed.f=p.a from rfl,show p.ed.t=p.b from rfl,hb]at h1;cases h1
     ·simp at he;subst he;exact⟨_,rfl,aiJ _⟩
    ·rw[By hk];rcases aiW.1 he with he|he
     ·exact i2 e he
     ·simp at he;subst he;exact absurd ⟨rfl,rfl⟩ hk
   |some x=>
    dsimp only;by_cases hx:p.c<x
    ·rw[AI hx];refine⟨put,fun e he=>?_,len⟩;rw[EM];by_cases hk:e.f=p.ed.f∧e.t=p.ed.t
     ·rw[AI hk];rcases aiW.1 he with he|he
      ·obtain⟨y,h1,h2⟩:=i2 e he;rw[hk.1,hk.2,show p.ed.f=p.a from rfl,show p.ed.t=p.b from rfl,hb]at h1;cases h1;exact⟨_,rfl,by show p.c≤e.c;omega⟩
      ·simp at he;subst he;exact⟨_,rfl,aiJ _⟩
     ·rw[By hk];rcases aiW.1 he with he|he
      ·exact i2 e he
      ·simp at he;subst he;exact absurd ⟨rfl,rfl⟩ hk
    ·rw[By hx];refine⟨fun e he=>ake _ (i1 e he),fun e he=>?_,by simp at i3⊢;omega⟩;rcases aiW.1 he with he|he
     ·exact i2 e he
     ·simp at he;subst he;exact⟨x,hb,by show x≤p.c;omega⟩
def mr(e:Ed):PV×PV:=(.agg [.int .i64 e.f,.int .i64 e.t,.bool false],.int .i64 e.c)
theorem adC(a b c d:Nat):dr (PV.agg [.int .i64 a,.int .i64 b,.bool false]).cells (PV.agg [.int .i64 c,.int .i64 d,.bool false]).cells=decide (a=c∧b=d):=by
 have h:∀x y:Nat,((x:Int)==(y:Int))=decide (x=y):=fun x y=>by
  by_cases h:x=y
  ·simp[h]
  ·rw[aj8 h,ajf];omega
 simp only[PV.cells,dr,peq,akb,h,beq_self_eq_true,Bool.decide_and]
theorem ZC(a b:Nat):∀m:List Ed,cH (.agg [.int .i64 a,.int .i64 b,.bool false]) (.int .i64 0) (m.map mr)=.int .i64 (((Ai a b m).getD 0:Nat):Int)∧tp (.agg [.int .i64 a,.int .i64 b,.bool false]) (m.map mr)=(Ai a b m).isSome
 |[]=>⟨rfl,rfl⟩
 |e::r=>by
  obtain⟨h1,h2⟩:=ZC a b r;simp only[aiL,mr,cH,tp,adC,Ai];by_cases h:a=e.f∧b=e.t
  ·simp[h]
  ·simp only[h,aiS,cT,T1,akm];exact⟨h1,h2⟩
theorem aaS(z:Ed):∀m:List Ed,dE (.agg [.int .i64 z.f,.int .i64 z.t,.bool false]) (.int .i64 z.c) (m.map mr)=(yO z m).map mr
 |[]=>rfl
 |e::r=>by
  have ih:=aaS z r;simp only[aiL,dE,yO];rw[show(mr e)=(PV.agg [.int .i64 e.f,.int .i64 e.t,.bool false],PV.int .i64 e.c)from rfl];simp only[adC];by_cases h:z.f=e.f∧z.t=e.t
  ·simp[h,mr]
  ·simp only[h,aiS,cT,T1,aiL,ih];rfl
theorem DB{R:Type}{n:Nat}{g:Nat→Option R}{r:R}(hn:0<n)(h:∀i,i<n→g i=some r):ri n g=some r:=by unfold ri;have hh:∃r,∀i,i<n→g i=some r:=⟨r,h⟩;rw[alB hh];have:=Classical.choose_spec hh 0 hn;rw[h 0 hn]at this;exact this.symm
theorem S8{n:Nat}(hn:n≤64)(r:PV)(adD:List Ed→Prop)(uT:∀acc,adD acc→∃D,fG [.int .i64 n,.rs 3 (acc.map Ed.pv)]=some (.aP [.rs 1 D,.int .i64 0])∧r=.rs 1 D):∀(rem acc:List Ed)(N:Nat),rem.length<N→acc.length+rem.length≤4096→(∀l,(∀y,y∈l↔y∈acc∨y∈rem)→l.length=acc.length+rem.length→adD l)→cZ (ec bl) N ((n:Int),acc.map Ed.pv,rem.map mr,())=some r:=by
 intro rem;generalize hk:rem.length=k;induction k generalizing rem with
 |zero=>
  intro acc N hN hl hg;have:rem=[]:=ahk hk;subst this;obtain⟨N,rfl⟩:∃m,N=m+1:=⟨N-1,by omega⟩;simp only[cZ];unfold ec;dsimp only;rw[AI (show(List.map mr []).isEmpty=true from rfl)];obtain⟨D,h1,h2⟩:=uT acc (hg acc (fun y=>by simp) (by simp));have e2:bg 2 (.aP [.rs 1 D,.int .i64 0])=some [.rs 1 D,.int .i64 0]:=rfl;have e3:ay 1 (.rs 1 D)=some D:=by simp[ay]
  rw[h1,U,e2,U];simp only[ai6,ai5,e3,U,E6];rw[h2]
 |succ k ih=>
  intro acc N hN hl hg;obtain⟨N,rfl⟩:∃m,N=m+1:=⟨N-1,by omega⟩;simp only[cZ];generalize Kg:cZ (ec bl) N=rec;unfold ec;dsimp only
  have dh:¬(rem.map mr).isEmpty=true:=by cases rem with
   |nil=>simp at hk
   |cons _ _=>simp
  rw[By dh];refine DB (by simp;omega) fun i hi=>?_;have oc:i<rem.length:=by simpa using hi
  obtain⟨e,he⟩:∃e,rem[i]?=some e:=⟨_,cO oc⟩;have Fi:(rem.map mr)[i]?=some (mr e):=by rw[GP,he];rfl
  have gn:(acc.map Ed.pv++[PV.agg [.int .i64 e.f,.int .i64 e.t,.int .i64 e.c]]).length*24≤ar∧0<24:=by simp only[ai1,ahj,aiV,aji];unfold ar;omega
  have E4:acc.map Ed.pv++[PV.agg [.int .i64 e.f,.int .i64 e.t,.int .i64 e.c]]=(acc++[e]).map Ed.pv:=by simp[Ed.pv]
  have aaT:(rem.map mr).eraseIdx i=(rem.eraseIdx i).map mr:=by apply aiY;intro j;simp only[ak7,GP];split<;>rfl
  have hle:(rem.eraseIdx i).length=k:=by rw[akD];simp[oc];omega
  rw[Fi,U];rw[E4]at gn;simp only[mr,ag3,adw,aaQ,E6,U,E4,AI gn,aaT];rw[←Kg];refine ih (rem.eraseIdx i) hle (acc++[e]) N (by omega) (by simp;omega) fun l hml QC=>hg l (fun y=>?_) (by rw[QC];simp;omega);rw[hml];have bQ:y∈rem↔y=e∨y∈rem.eraseIdx i:=by
   rw[List.mem_eraseIdx_iff_getElem?];constructor
   ·intro hy;obtain⟨j,hj⟩:=aiU hy;by_cases Sb:j=i
    ·subst Sb;rw[he]at hj;exact .inl (akJ hj).symm
    ·exact .inr ⟨j,Sb,hj⟩
   ·rintro(rfl|⟨j,_,hj⟩)
    ·exact abV he
    ·exact abV hj
  rw[bQ];simp only[aiW,akO];constructor
  ·rintro((h|h)|h)
   ·exact .inl h
   ·exact .inr (.inl h)
   ·exact .inr (.inr h)
  ·rintro(h|h|h)
   ·exact .inl (.inl h)
   ·exact .inl (.inr h)
   ·exact .inr h
theorem IC.leq{E E':List Ed}(h:∀e∈E,∃e'∈E',e'.f=e.f∧e'.t=e.t∧e'.c≤e.c){s v L:Nat}(hr:IC E s v L):∃L',L'≤L∧IC E' s v L':=by
 rcases hr with⟨h1,h2⟩|hr
 ·exact⟨L,aiJ _,.inl ⟨h1,h2⟩⟩
 ·obtain⟨L',l1,l2⟩:=hr.leq (w':=ew E') fun i j c hc=>by
   obtain⟨e',m,e1,e2,e3⟩:=h _ hc;refine⟨e'.c,e3,?_⟩;unfold ew;have:(⟨i,j,e'.c⟩:Ed)=e':=by have e1:e'.f=i:=e1;have e2:e'.t=j:=e2;rw[←e1,←e2]
   rw[this];exact m
  exact⟨L',l1,.inr l2⟩
theorem V5{fr:Bool}{l:List Fp}{M s v:Nat}{d:Int}(h:Pu (kW fr l) M s v d):Pu (counted fr l) M s v d:=by
 obtain⟨b1,b2,_⟩:=Rs fr l;have low:∀{L},IC (counted fr l) s v L→∃L',L'≤L∧IC (kW fr l) s v L':=fun hr=>hr.leq fun e he=>by obtain⟨x,h1,h2⟩:=b2 e he;obtain⟨e',m,e1,e2,e3⟩:=Ld h1;exact⟨e',m,e1,e2,by omega⟩
 rcases h with⟨e,h1⟩|⟨L,e,hM,h1,h2⟩
 ·refine .inl ⟨e,fun L hL=>?_⟩;obtain⟨L',_,hL'⟩:=low hL;exact h1 L' hL'
 ·refine .inr ⟨L,e,hM,h1.mem b1,fun L' hL=>?_⟩;obtain⟨L'',l1,l2⟩:=low hL;exact ajq (h2 L'' l2) l1
theorem wA{fr:Bool}{l:List Fp}{e:Ed}(h:e∈counted fr l):∃p∈l,p.ed=e:=by unfold counted at h;obtain⟨p,hp,rfl⟩:=aiR.1 h;exact⟨p,(aj1.1 hp).1,rfl⟩
theorem Rt(l:List Fp)(n B:Nat)(hn:n≤64)(hl:l.length≤4096)(hB:B≤1073741824)(h:∀p∈l,p.a<n∧p.b<n∧p.c≤B)(fr:Bool):∃D:Nat→Nat→Int,(∀s v,s<n→v<n→Pu (counted fr l) (B*n) s v (D s v))∧dC [.rs 4 (l.map Fp.pv),.int .i64 n,.bool fr]=some (.rs 1 (eR n D)):=by
 obtain⟨b1,b2,b3⟩:=Rs fr l;have hbe:∀y∈kW fr l,y.f<n∧y.t<n∧y.c≤B:=fun y hy=>by obtain⟨p,hp,rfl⟩:=wA (b1 y hy);exact h p hp
 obtain⟨D,d1,d2⟩:=V3 (kW fr l) n B hn (by omega) hB hbe;refine⟨D,fun s v hs hv=>V5 (d1 s v hs hv),?_⟩;have e0:ay 4 (.rs 4 (l.map Fp.pv))=some (l.map Fp.pv):=by simp[ay]
 simp only[dC,kS,e0,U,E6,asBool];refine bV (fun k=>((n:Int),fr,l.map Fp.pv,((l.map Fp.pv).length:Int),(k:Int),(kW fr (l.take k)).map mr,())) l.length (fun k hk rec=>?_) (fun rec=>?_) (by unfold rounds;omega) (by simp[kW])
 ·unfold iG;dsimp only;have hg:decide ((k:Int)<((l.map Fp.pv).length:Int))=true:=by simp;omega
  obtain⟨p,hp⟩:∃p,l[k]?=some p:=⟨_,cO hk⟩;have Fi:(l.map Fp.pv)[k]?=some p.pv:=by rw[GP,hp];rfl
  have htk:l.take (k+1)=l.take k++[p]:=by rw[akX,hp];rfl
  have hr7:(bif fr then(asBool (cell p.pv 3)).bind fun b6=>some !b6 else some false)=some (fr&& !p.free):=by rw[fp3];cases fr<;>rfl
  obtain⟨g1,g2⟩:=ZC p.a p.b (kW fr (l.take k));rw[AI hg,aU,Fi,U,hr7,U,aO (by omega),htk,GM];unfold Rr;by_cases hf:(fr&& !p.free)=true
  ·rw[AI hf,AI hf]
  ·rw[By hf,By hf];simp only[fp0,fp1,fp2,E6,U,g1,g2];cases hb:Ai p.a p.b (kW fr (l.take k))with
   |none=>simp only[akQ,ai4,cond_true,U,IS];rw[show(p.c:Int)=((p.ed.c:Nat):Int)from rfl,show(p.a:Int)=((p.ed.f:Nat):Int)from rfl,show(p.b:Int)=((p.ed.t:Nat):Int)from rfl,aaS]
   |some x=>
    simp only[Option.isSome_some,aiK,cond_false,U,aju];by_cases hx:p.c<x
    ·have hd:decide ((p.c:Int)<(x:Int))=true:=by simp;omega
     simp only[hd,IS,AI hx];rw[show(p.c:Int)=((p.ed.c:Nat):Int)from rfl,show(p.a:Int)=((p.ed.f:Nat):Int)from rfl,show(p.b:Int)=((p.ed.t:Nat):Int)from rfl,aaS]
    ·have hd:decide ((p.c:Int)<(x:Int))=false:=by simp;omega
     simp only[hd,cT,T1,By hx]
 ·unfold iG;dsimp only;have hml:((kW fr (l.take l.length)).map mr).length≤maxLen:=by
   rw[ajy,ahj];have:(4096:Nat)≤maxLen:=by decide
   omega
  have gn:(0:Int)≤0∧0≤((((kW fr (l.take l.length)).map mr).length:Nat):Int)∧((((kW fr (l.take l.length)).map mr).length:Nat):Int).toNat*24≤ar∧0<24∧0<3:=by refine⟨by omega,by omega,?_,by omega,by omega⟩;rw[aiP,ajy,ahj];unfold ar;omega
  rw[By (by simp),AI hml,AI gn,ajy,nu];have hp:=S8 hn (.rs 1 (eR n D)) (fun acc=>(∀y,y∈kW fr l↔y∈acc)∧acc.length≤4096) (fun acc⟨h1,h2⟩=>⟨_,V4 (kW fr l) acc n B hn h2 hB hbe h1 d1,rfl⟩) (kW fr l) [] rounds (by unfold rounds;omega) (by simp;omega) (fun l' h1 h2=>⟨fun y=>by rw[h1];simp,by rw[h2];simp;omega⟩);exact hp
abbrev Mx:=Nat→Nat→Nat
def II(d:Mx)(i j x:Nat):Mx:=fun a b=>if a=i∧b=j then x else d a b
def dj(k i:Nat)(d:Mx):Nat→Mx
 |0=>d
 |j+1=>II (dj k i d j) i j (min (dj k i d j i j) (dj k i d j i k+dj k i d j k j))
def di(n k:Nat)(d:Mx):Nat→Mx
 |0=>d
 |i+1=>dj k i (di n k d i) n
def dk(n:Nat)(d:Mx):Nat→Mx
 |0=>d
 |k+1=>di n k (dk n d k) n
structure S9(w:Nat→Nat→Nat→Prop)(inf n k i j:Nat)(d:Mx):Prop where
 fw:Fw w inf n d
 lD:∀a b,a<n→b<n→qM w k a b (d a b)
 new:∀a b,a<n→b<n→(a<i∨(a=i∧b<j))→qM w (k+1) a b (d a b)
variable {w:Nat→Nat→Nat→Prop} {inf n:Nat}
theorem qM.le{k i j x y:Nat}(h:qM w k i j x)(hy:y≤x):qM w k i j y:=fun L hL=>ajq hy (h L hL)
theorem S9.cell{k i j:Nat}{d:Mx}(h:S9 w inf n k i j d)(hi:i<n)(hj:j<n)(hk:k<n):S9 w inf n k i (j+1) (II d i j (min (d i j) (d i k+d k j))):=by
 obtain⟨h1,h2,h3⟩:=Yc h.fw hi hj hk (x:=min (d i j) (d i k+d k j)) rfl (d':=II d i j (min (d i j) (d i k+d k j))) (fun a b=>rfl);refine⟨h1,fun a b ha hb=>(h.lD a b ha hb).le (h2 a b),fun a b ha hb hd=>?_⟩;by_cases e:a=i∧b=j
 ·obtain⟨rfl,rfl⟩:=e;exact h3 (h.lD _ _ ha hk) (h.lD _ _ hk hb) (h.lD _ _ ha hb)
 ·exact(h.new a b ha hb (by omega)).le (h2 a b)
theorem S9.row{k i:Nat}{d:Mx}(h:S9 w inf n k i 0 d)(hi:i<n)(hk:k<n):∀j,j≤n→S9 w inf n k i j (dj k i d j)
 |0,_=>h
 |j+1,hj=>(S9.row h hi hk j (by omega)).cell hi (by omega) hk
theorem S9.rows{k:Nat}{d:Mx}(h:S9 w inf n k 0 0 d)(hk:k<n):∀i,i≤n→S9 w inf n k i 0 (di n k d i)
 |0,_=>h
 |i+1,hi=>by have:=(S9.rows h hk i (by omega)).row (by omega) hk n (aiJ _);exact⟨this.fw,this.lD,fun a b ha hb hd=>this.new a b ha hb (by omega)⟩
structure V6(w:Nat→Nat→Nat→Prop)(inf n k:Nat)(d:Mx):Prop where
 fw:Fw w inf n d
 low:∀a b,a<n→b<n→qM w k a b (d a b)
theorem V6.rounds{d:Mx}(h:V6 w inf n 0 d):∀k,k≤n→V6 w inf n k (dk n d k)
 |0,_=>h
 |k+1,hk=>by have ih:=V6.rounds h k (by omega);have:=S9.rows (k:=k) ⟨ih.fw,ih.low,fun a b ha hb hd=>by omega⟩ (by omega) n (aiJ _);exact⟨this.fw,fun a b ha hb=>this.new a b ha hb (.inl ha)⟩
def Ru(inf:Nat):Mx:=fun _ _=>inf
def lay(d:Mx)(e:Ed):Mx:=II d e.f e.t (min (d e.f e.t) e.c)
def start(inf:Nat)(E:List Ed):Mx:=E.foldl lay (Ru inf)
theorem EN(inf:Nat)(E:List Ed)(e:Ed):start inf (E++[e])=lay (start inf E) e:=by simp[start]
theorem V7(E:List Ed):(∀i j,start inf E i j≤inf)∧(∀i j,start inf E i j<inf→(⟨i,j,start inf E i j⟩:Ed)∈E)∧∀e∈E,start inf E e.f e.t≤e.c:=by
 rw[←akE E];induction E.reverse with
 |nil=>exact⟨fun i j=>aiJ _,fun i j h=>by simp[start,Ru]at h,fun e h=>by cases h⟩
 |cons e l ih=>
  rw[ak1,EN];obtain⟨i1,i2,i3⟩:=ih;have hl:∀a b,lay (start inf l.reverse) e a b=if a=e.f∧b=e.t then min (start inf l.reverse e.f e.t) e.c else start inf l.reverse a b:=fun a b=>rfl;refine⟨fun a b=>?_,fun a b h=>?_,fun z hz=>?_⟩
  ·rw[hl];split
   ·have:=i1 e.f e.t;omega
   ·exact i1 a b
  ·rw[hl]at h⊢;split
   ·rename_i hk;rw[AI hk]at h;by_cases hm:start inf l.reverse e.f e.t≤e.c
    ·rw[show min (start inf l.reverse e.f e.t) e.c=start inf l.reverse e.f e.t by omega]at h⊢;rw[hk.1,hk.2];exact ake _ (i2 _ _ h)
    ·rw[show min (start inf l.reverse e.f e.t) e.c=e.c by omega,hk.1,hk.2];simp
   ·rename_i hk;rw[By hk]at h;exact ake _ (i2 a b h)
  ·rw[hl];rcases aiW.1 hz with hz|hz
   ·have:=i3 z hz;split
    ·rename_i hk;rw[hk.1,hk.2]at this;omega
    ·exact this
   ·simp at hz;subst hz;rw[AI ⟨rfl,rfl⟩];omega
theorem EO(E:List Ed):V6 (ew E) inf n 0 (start inf E):=by obtain⟨h1,h2,h3⟩:=V7 (inf:=inf) E;exact⟨⟨fun i j _ _=>h1 i j,fun i j _ _ h=>.EK (h2 i j h)⟩,fun a b _ _ L hL=>h3 ⟨a,b,L⟩ hL⟩
theorem Yj{E:List Ed}{M:Nat}(hE:∀y∈E,y.f<n∧y.t<n)(hM:M<inf){i j:Nat}(hi:i<n)(hj:j<n)(Y5:i≠j){D:Int}(hD:Pu E M i j D):(D= -1∧dk n (start inf E) n i j=inf)∨(D=(dk n (start inf E) n i j:Int)∧dk n (start inf E) n i j≤M):=by
 have hd:=(EO (n:=n) (inf:=inf) E).rounds n (aiJ _);have rch:∀L,IC E i j L↔jX (ew E) i j L:=fun L=>⟨fun h=>by rcases h with⟨h,_⟩|h;exact absurd h.symm Y5;exact h,.inr⟩;have hs:=Yd (w:=ew E) (fun a b c h=>(hE _ h).1) hd.fw hi hj (hd.low i j hi hj) (fun L Xj hw=>by
  rcases hD with⟨_,h⟩|⟨L',_,hle,h1,h2⟩
  ·exact absurd ((rch L).2 hw) (h L)
  ·have:=Xj L' ((rch L').1 h1);omega)
 rcases hD with⟨e,h⟩|⟨L',e,hle,h1,h2⟩
 ·left;refine⟨e,?_⟩;have aiz:=hd.fw.top i j hi hj;by_cases bT:dk n (start inf E) n i j<inf
  ·exact absurd ((rch _).2 (hd.fw.real i j hi hj bT)) (h _)
  ·omega
 ·right;have:(if dk n (start inf E) n i j<inf then some (dk n (start inf E) n i j)else none)=some L':=hs.unique ⟨(rch L').1 h1,fun L'' hw=>h2 L'' ((rch L'').2 hw)⟩;split at this
  ·simp only[cN]at this;exact⟨by rw[e,this],by omega⟩
  ·cases this
def Aj(n:Nat)(r:Nat→Nat):List PV:=(List.range n).map fun j=>.int .i64 (r j)
def oB(n:Nat)(d:Mx):List PV:=(List.range n).map fun i=>.oX 1 (Aj n (d i))
theorem te(n:Nat)(d:Mx):(oB n d).length=n:=by simp[oB]
theorem qO(n:Nat)(r:Nat→Nat):(Aj n r).length=n:=by simp[Aj]
theorem tf{n i:Nat}(d:Mx)(h:i<n):(oB n d)[i]?=some (.oX 1 (Aj n (d i))):=by simp[oB,h]
theorem tg{n j:Nat}(r:Nat→Nat)(h:j<n):(Aj n r)[j]?=some (.int .i64 (r j)):=by simp[Aj,h]
theorem Lf{n i j:Nat}(d:Mx)(x:Nat)(hi:i<n)(hj:j<n):(oB n d).set i (.oX 1 ((Aj n (d i)).set j (.int .i64 x)))=oB n (II d i j x):=by
 apply aiY;intro a;rw[ai9];by_cases e:i=a
 ·subst e;rw[AI rfl,AI (by rw[te];exact hi),tf _ hi];congr 2;apply aiY;intro b;rw[ai9];by_cases e:j=b
  ·subst e;rw[AI rfl,AI (by rw[qO];exact hj),tg _ hj];simp[II]
  ·rw[By e];by_cases hb:b<n
   ·rw[tg _ hb,tg _ hb];simp[II,Ne.symm e]
   ·rw[ahl (by rw[qO];omega),ahl (by rw[qO];omega)]
 ·rw[By e];by_cases ha:a<n
  ·rw[tf _ ha,tf _ ha];congr 2;unfold Aj;apply ai7;intro b _;simp[II,Ne.symm e]
  ·rw[ahl (by rw[te];omega),ahl (by rw[te];omega)]
theorem asR(es:List PV):eL 1 (cell (.oX 1 es) 0)=some es:=rfl
theorem cI(x:Int):cell (.int .i64 x) 0=.int .i64 x:=rfl
theorem adE(e p:PV):setRow 1 e 0 p=p:=rfl
theorem adF(q p:PV):setCells 1 q 0 1 p=p:=rfl
theorem Yk(a b:Nat)(hb:b≤4398046511104):(if IntKind.i64.wrap (b:Int)<(a:Int)then IntKind.i64.wrap (b:Int)else(a:Int))=((min a b:Nat):Int):=by rw[dU (by omega) (by omega)];split<;>omega
theorem aaU(qN:Int×Int×Int×List PV×Unit→Option PV)(n k i:Nat)(d:Mx)(hn:n≤64)(hk:k<n)(hi:i<n)(hd:∀j,j≤n→∀a b,a<n→b<n→dj k i d j a b≤1099511627776):bl.run (iT qN) ((n:Int),(k:Int),(i:Int),0,oB n d,())=qN ((n:Int),(k:Int),IntKind.i64.wrap ((i:Int)+1),oB n (dj k i d n),()):=by
 refine bV (fun j=>((n:Int),(k:Int),(i:Int),(j:Int),oB n (dj k i d j),())) n (fun j hj rec=>?_) (fun rec=>?_) (by unfold rounds;omega) rfl
 ·unfold iT;dsimp only;have hg:decide ((j:Int)<(n:Int))=true:=by simp;omega
  have ii:aj (i:Int) (oB n (dj k i d j)).length:=CV (by rw[te];exact hi);have ik:aj (k:Int) (oB n (dj k i d j)).length:=CV (by rw[te];exact hk);have ji:aj (j:Int) (Aj n (dj k i d j i)).length:=CV (by rw[qO];exact hj);have ki:aj (k:Int) (Aj n (dj k i d j i)).length:=CV (by rw[qO];exact hk);have jk:aj (j:Int) (Aj n (dj k i d j k)).length:=CV (by rw[qO];exact hj);have b1:=hd j (by omega) i k hi hk;have b2:=hd j (by omega) k j hk hj;have hs:(((dj k i d j i k:Nat):Int)+((dj k i d j k j:Nat):Int))=((dj k i d j i k+dj k i d j k j:Nat):Int):=by omega
  simp only[hg,IS,AI ii,AI ik,aiP,tf _ hi,tf _ hk,U,asR,AI ji,AI ki,AI jk,tg _ hj,tg _ hk,cI,E6,adE,adF,hs,Yk _ _ (show dj k i d j i k+dj k i d j k j≤4398046511104 by omega),Lf _ _ hi hj,aO (show j<9223372036854775807 by omega)];rfl
 ·unfold iT;dsimp only;rw[By (by simp)]
theorem aaV(GN:Int×Int×List PV×Unit→Option PV)(n k:Nat)(d:Mx)(hn:n≤64)(hk:k<n)(hd:∀i,i<n→∀j,j≤n→∀a b,a<n→b<n→dj k i (di n k d i) j a b≤1099511627776):bl.run (iU bl GN) ((n:Int),(k:Int),0,oB n d,())=GN ((n:Int),IntKind.i64.wrap ((k:Int)+1),oB n (di n k d n),()):=by
 refine bV (fun i=>((n:Int),(k:Int),(i:Int),oB n (di n k d i),())) n (fun i hi rec=>?_) (fun rec=>?_) (by unfold rounds;omega) rfl
 ·unfold iU;dsimp only;have hg:decide ((i:Int)<(n:Int))=true:=by simp;omega
  rw[AI hg,aaU rec n k i _ hn hk hi (hd i hi),aO (by omega)];rfl
 ·unfold iU;dsimp only;rw[By (by simp)]
theorem aaW(n:Nat)(d:Mx)(hn:n≤64)(hd:∀k,k<n→∀i,i<n→∀j,j≤n→∀a b,a<n→b<n→dj k i (di n k (dk n d k) i) j a b≤1099511627776):bl.run (iV bl) ((n:Int),0,oB n d,())=some (.rs 1 ((oB n (dk n d n)).map PV.strip)):=by
 refine bV (fun k=>((n:Int),(k:Int),oB n (dk n d k),())) n (fun k hk rec=>?_) (fun rec=>?_) (by unfold rounds;omega) rfl
 ·unfold iV;dsimp only;have hg:decide ((k:Int)<(n:Int))=true:=by simp;omega
  rw[AI hg,aaV rec n k _ hn hk (hd k hk),aO (by omega)];rfl
 ·unfold iV;dsimp only;rw[By (by simp)]
abbrev Ak:Nat:=1099511627776
theorem Ta(n:Nat):List.replicate n (PV.oX 1 (List.replicate n (PV.int .i64 1099511627776)))=oB n (Ru Ak):=by
 unfold oB Aj Ru;apply aiY;intro i;by_cases hi:i<n
 ·have:(List.range n).map (fun j=>PV.int .i64 ((Ak:Nat):Int))=List.replicate n (PV.int .i64 1099511627776):=by
   apply aiY;intro j;by_cases hj:j<n
   ·simp[hj,ajx]
   ·rw[ahl (by simp;omega),ahl (by simp;omega)]
  simp only[ajx,AI hi,GP,ajK hi,aff];rw[←this]
 ·rw[ahl (by simp;omega),ahl (by simp;omega)]
theorem Tb(n:Nat)(d:Mx):(oB n d).map PV.strip=eR n fun i j=>((d i j:Nat):Int):=by unfold oB eR Aj td;rw[akt];rfl
theorem V8(a b:Nat):(if(b:Int)<(a:Int)then(b:Int)else(a:Int))=((min a b:Nat):Int):=by split<;>omega
theorem IJ(fr:Bool)(l:List Fp)(p:Fp):counted fr (l++[p])=if(fr&& !p.free)=true then counted fr l else counted fr l++[p.ed]:=by
 unfold counted;rw[akn,akI];cases hb:(fr&& !p.free)with
 |true=>simp only[ajG,hb,aiK,cT,T1,akL,akk,IS,aja]
 |false=>simp only[ajG,hb,ai4,cT,T1,akL,akk,aiL,IS]
theorem Al(l:List Fp)(n:Nat)(hn:n≤64)(hl:l.length≤4096)(h:∀p∈l,p.a<n∧p.b<n)(fr:Bool):fm [.rs 4 (l.map Fp.pv),.int .i64 n,.bool fr]=some (.rs 1 (eR n fun i j=>((dk n (start Ak (counted fr l)) n i j:Nat):Int))):=by
 have e0:ay 4 (.rs 4 (l.map Fp.pv))=some (l.map Fp.pv):=by simp[ay]
 have hE:∀y∈counted fr l,y.f<n∧y.t<n:=fun y hy=>by obtain⟨p,hp,rfl⟩:=wA hy;exact h p hp
 simp only[fm,qu,e0,U,E6,asBool];refine bV (fun i=>(l.map Fp.pv,(n:Int),fr,(i:Int),List.replicate i (PV.oX 1 (List.replicate n (PV.int .i64 1099511627776))),())) n (fun i hi rec=>?_) (fun rec=>?_) (by unfold rounds;omega) rfl
 ·unfold mw;dsimp only;have hg:decide ((i:Int)<(n:Int))=true:=by simp;omega
  rw[AI hg];refine bV (fun j=>(l.map Fp.pv,(n:Int),fr,(i:Int),(j:Int),List.replicate i (PV.oX 1 (List.replicate n (PV.int .i64 1099511627776))),List.replicate j (PV.int .i64 1099511627776),())) n (fun j hj er=>?_) (fun er=>?_) (by unfold rounds;omega) rfl
  ·unfold my;dsimp only;have hg:decide ((j:Int)<(n:Int))=true:=by simp;omega
   have E4:List.replicate j (PV.int .i64 1099511627776)++[PV.int .i64 1099511627776]=List.replicate (j+1) (PV.int .i64 1099511627776):=(alm ..).symm;rw[AI hg];simp only[E4,ajF];rw[AI (by unfold ar;omega),aO (by omega)]
  ·unfold my;dsimp only;have E4:List.replicate i (PV.oX 1 (List.replicate n (PV.int .i64 1099511627776)))++[PV.oX 1 (List.replicate n (PV.int .i64 1099511627776))]=List.replicate (i+1) (PV.oX 1 (List.replicate n (PV.int .i64 1099511627776))):=(alm ..).symm;rw[By (by simp)];simp only[E4,ajF];rw[AI (by unfold ar;omega),aO (by omega)]
 ·unfold mw;dsimp only;rw[By (by simp),Ta];refine bV (fun k=>(l.map Fp.pv,(n:Int),fr,(k:Int),oB n (start Ak (counted fr (l.take k))),())) l.length (fun k hk er=>?_) (fun er=>?_) (by unfold rounds;omega) rfl
  ·unfold mz;dsimp only;have hg:decide ((k:Int)<((l.map Fp.pv).length:Int))=true:=by simp;omega
   obtain⟨p,hp⟩:∃p,l[k]?=some p:=⟨_,cO hk⟩;have Fi:(l.map Fp.pv)[k]?=some p.pv:=by rw[GP,hp];rfl
   have htk:l.take (k+1)=l.take k++[p]:=by rw[akX,hp];rfl
   obtain⟨pa,pb⟩:=h p (abV hp);have hr:(bif p.free then some true else some !fr)=some (!(fr&& !p.free)):=by cases p.free<;>cases fr<;>rfl
   rw[AI hg,aU,Fi,U,htk,IJ];simp only[fp3,asBool,U,hr];cases hb:(fr&& !p.free)with
   |true=>simp only[aiK,cT,T1,IS,aO (show k<9223372036854775807 by omega)]
   |false=>
    obtain⟨d,hd⟩:∃d,d=start Ak (counted fr (l.take k)):=⟨_,rfl⟩;have ia:aj (p.a:Int) (oB n d).length:=CV (by rw[te];exact pa);have ib:aj (p.b:Int) (Aj n (d p.a)).length:=CV (by rw[qO];exact pb);have vw:oB n (start Ak (counted fr (l.take k)++[p.ed]))=oB n (II d p.a p.b (min (d p.a p.b) p.c)):=by rw[EN,←hd];rfl
    simp only[ai4,IS,cT,T1,vw,←hd,fp0,fp1,fp2,E6,U,AI ia,aiP,tf _ pa,asR,AI ib,tg _ pb,cI,adE,adF,V8,Lf _ _ pa pb,aO (show k<9223372036854775807 by omega)]
  ·unfold mz;dsimp only;rw[By (by simp),ajy,←Tb];have adG:=EO (n:=n) (inf:=Ak) (counted fr l);exact aaW n _ hn fun k hk i hi j hj a b ha hb=>by have ih:=adG.rounds k (by omega);have:=(S9.rows (k:=k) ⟨ih.fw,ih.low,fun a b ha hb hd=>by omega⟩ hk i (by omega)).row hi hk j hj;exact this.fw.top a b ha hb
def WS(i k:Nat)(s:Int)(b:Bool):PV:=.agg [.int .i64 i,.int .i64 k,.int .i64 s,.bool b]
def Cw(w f:Int)(i k:Nat):List PV:=if i=k∨w>14400 then[]else WS i k w (f==w)::(if f>w∧f≤14400 then[WS i k f true]else[])
def wB(n:Nat)(it:Nat→Nat→List PV)(i:Nat):List PV:=(List.range n).flatMap (it i)
def yP(n:Nat)(it:Nat→Nat→List PV)(m:Nat):List PV:=(List.range m).flatMap (wB n it)
theorem Bf(n:Nat)(it:Nat→Nat→List PV)(i:Nat):wB (n+1) it i=wB n it i++it i n:=by simp[wB,ald,alr]
theorem Bg(n:Nat)(it:Nat→Nat→List PV)(m:Nat):yP n it (m+1)=yP n it m++wB n it m:=by simp[yP,ald,alr]
theorem Am{it:Nat→Nat→List PV}(h:∀i k,(it i k).length≤2)(i:Nat):∀k,(wB k it i).length≤2*k
 |0=>by simp[wB]
 |k+1=>by rw[Bf,ai1];have:=Am h i k;have:=h i k;omega
theorem Ac{it:Nat→Nat→List PV}(h:∀i k,(it i k).length≤2)(n:Nat):∀m,(yP n it m).length≤2*n*m
 |0=>by simp[yP]
 |m+1=>by rw[Bg,ai1,Nat.mul_succ];have:=Ac h n m;have:=Am h m n;omega
theorem Iu(w f:Int)(i k:Nat):(Cw w f i k).length≤2:=by
 unfold Cw;split
 ·simp
 ·split<;>simp
theorem GO{n k:Nat}(D:Nat→Int)(h:k<n):(td n D)[k]?=some (.int .i64 (D k)):=by simp[td,h]
theorem Bh{n i:Nat}(D:Nat→Nat→Int)(h:i<n):(eR n D)[i]?=some (.rs 1 (td n (D i))):=by simp[eR,h]
theorem aaX(es:List PV):ay 1 (cell (.rs 1 es) 0)=some es:=by show ay 1 (.rs 1 es)=some es;simp[ay]
theorem e9{a:List PV}(h:a.length≤16384):a.length*32≤ar∧0<32:=by unfold ar;omega
theorem Pv(Bi:aaY→Option PV)(n i:Nat)(W F:Nat→Nat→Int)(hn:n≤64)(hi:i<n)(acc:List PV)(ahb:acc.length≤8192):bl.run (kJ bl Bi) ((n:Int),eR n W,eR n F,(i:Int),0,acc,())=Bi ((n:Int),eR n W,eR n F,IntKind.i64.wrap ((i:Int)+1),acc++wB n (fun i k=>Cw (W i k) (F i k) i k) i,()):=by
 refine bV (fun k=>((n:Int),eR n W,eR n F,(i:Int),(k:Int),acc++wB k (fun i k=>Cw (W i k) (F i k) i k) i,())) n (fun k hk rec=>?_) (fun rec=>?_) (by unfold rounds;omega) (by simp[wB])
 ·unfold kJ;dsimp only;have hg:decide ((k:Int)<(n:Int))=true:=by simp;omega
  rw[Bf];have hlen:=Am (it:=fun i k=>Cw (W i k) (F i k) i k) (fun i k=>Iu _ _ i k) i k;generalize hA:acc++wB k (fun i k=>Cw (W i k) (F i k) i k) i=A;have hAl:A.length≤8192+128:=by rw[←hA,ai1];omega
  rw[←abW,hA];simp only[hg,IS,aU,Bh _ hi,U,aaX,GO _ hk,cI,E6,aO (show k<9223372036854775807 by omega)];generalize W i k=w;generalize F i k=f;by_cases Jp:i=k
  ·have hb:((i:Int)==(k:Int))=true:=by simp[Jp]
   have hit:Cw w f i k=[]:=AI (.inl Jp);simp only[hb,cond_true,U,IS,hit,aja]
  ·have hb:((i:Int)==(k:Int))=false:=by rw[ajf];omega
   simp only[hb,cond_false,U];by_cases hw:w>14400
   ·have hit:Cw w f i k=[]:=AI (.inr hw);simp only[hw,ai2,IS,hit,aja]
   ·have hr1:(A++[PV.agg [.int .i64 i,.int .i64 k,.int .i64 w,.bool (f==w)]]).length*32≤ar∧0<32:=e9 (by simp;omega);simp only[hw,aiS,cT,T1,AI hr1];by_cases hf:f>w
    ·by_cases hf2:f≤14400
     ·have Sa:(A++[PV.agg [.int .i64 i,.int .i64 k,.int .i64 w,.bool (f==w)]]++[PV.agg [.int .i64 i,.int .i64 k,.int .i64 f,.bool true]]).length*32≤ar∧0<32:=e9 (by simp;omega);have hit:Cw w f i k=[WS i k w (f==w),WS i k f true]:=by unfold Cw;rw[By (by omega),AI ⟨hf,hf2⟩]
      simp only[hf,hf2,ai2,cond_true,U,IS,AI Sa,hit];rw[abW];rfl
     ·have hit:Cw w f i k=[WS i k w (f==w)]:=by unfold Cw;rw[By (by omega),By (by omega)]
      simp only[hf,hf2,ai2,aiS,cond_true,U,cT,T1,hit];rfl
    ·have hit:Cw w f i k=[WS i k w (f==w)]:=by unfold Cw;rw[By (by omega),By (by omega)]
     simp only[hf,aiS,cond_false,U,cT,T1,hit];rfl
 ·unfold kJ;dsimp only;rw[By (by simp)]
theorem Lg(n:Nat)(W F:Nat→Nat→Int)(hn:n≤64):bl.run (kK bl) ((n:Int),eR n W,eR n F,0,[],())=some (.rs 4 (yP n (fun i k=>Cw (W i k) (F i k) i k) n)):=by
 refine bV (fun i=>((n:Int),eR n W,eR n F,(i:Int),yP n (fun i k=>Cw (W i k) (F i k) i k) i,())) n (fun i hi rec=>?_) (fun rec=>?_) (by unfold rounds;omega) rfl
 ·unfold kK;dsimp only;have hg:decide ((i:Int)<(n:Int))=true:=by simp;omega
  have hlen:=Ac (it:=fun i k=>Cw (W i k) (F i k) i k) (fun i k=>Iu _ _ i k) n i;have hb:2*n*i≤2*64*64:=aks (by omega) (by omega);rw[AI hg,Pv rec n i W F hn hi _ (by omega),Bg,aO (by omega)]
 ·unfold kK;dsimp only;rw[By (by simp)]
def q7(n:Nat)(l:List Fp)(fr:Bool)(i j:Nat):Int:=((dk n (start Ak (counted fr l)) n i j:Nat):Int)
theorem Pw(l:List Fp)(n:Nat)(hn:n≤64)(hl:l.length≤4096)(h:∀p∈l,p.a<n∧p.b<n):fB [.rs 4 (l.map Fp.pv),.int .i64 n]=some (.rs 4 (yP n (fun i k=>Cw (q7 n l false i k) (q7 n l true i k) i k) n)):=by
 have e0:ay 4 (.rs 4 (l.map Fp.pv))=some (l.map Fp.pv):=by simp[ay]
 have e1:∀es,ay 1 (.rs 1 es)=some es:=fun es=>by simp[ay]
 simp only[fB,tS,e0,U,E6,Al l n hn hl h false,Al l n hn hl h true,e1];exact Lg n (q7 n l false) (q7 n l true) hn
def Ms(w f:Int)(i k:Nat):List PV:=if i=k then[]else(if 0<w∧w≤14400 then[WS i k w (f==w)]else[])++(if f≠w∧0<f∧f≤14400 then[WS i k f true]else[])
theorem jX.pos{w:Nat→Nat→Nat→Prop}(h:∀i j c,w i j c→1≤c){i j L:Nat}(hw:jX w i j L):1≤L:=by
 cases hw with
 |EK e=>exact h _ _ _ e
 |snoc _ e=>have:=h _ _ _ e;omega
def Yl(M:Nat)(d w:Int):Prop:=(d= -1∧w=(Ak:Int))∨(d=w∧1≤w∧w≤M)
theorem adH{M:Nat}(hM:M<Ak){d0 d1 w f:Int}(h0:Yl M d0 w)(h1:Yl M d1 f)(Dq:d1≠-1→d0≠-1∧d0≤d1)(i k:Nat):Ms d0 d1 i k=Cw w f i k:=by
 unfold Ms Cw;by_cases Jp:i=k
 ·rw[AI Jp,AI (.inl Jp)]
 ·rw[By Jp];have hM:(M:Int)<1099511627776:=by have:M<1099511627776:=hM;omega
  have ahc:((Ak:Nat):Int)=1099511627776:=rfl;rw[Yl,ahc]at h0 h1;rcases h0 with⟨e0,w0⟩|⟨e0,w1,w2⟩
  ·have e1:d1= -1:=by
    by_cases h:d1= -1
    ·exact h
    ·exact absurd e0 (Dq h).1
   rw[By (by omega),By (by omega),AI (.inr (by omega))];rfl
  ·subst e0;rcases h1 with⟨e1,f0⟩|⟨e1,f1,f2⟩
   ·by_cases hw:d0≤14400
    ·have b1:(d1==d0)=false:=by rw[ajf];omega
     have b2:(f==d0)=false:=by rw[ajf];omega
     rw[AI ⟨by omega,hw⟩,By (by omega),By (by omega),By (by omega),b1,b2];rfl
    ·rw[By (by omega),By (by omega),AI (.inr (by omega))];rfl
   ·subst e1;have hle:=(Dq (by omega)).2;by_cases hw:d0≤14400
    ·rw[AI ⟨by omega,hw⟩,By (show¬(i=k∨d0>14400) by omega)];by_cases hf:d1>d0∧d1≤14400
     ·rw[AI hf,AI ⟨by omega,by omega,by omega⟩];rfl
     ·rw[By hf,By (by omega)];rfl
    ·rw[By (by omega),By (by omega),AI (.inr (by omega))];rfl
theorem Rv{l:List Fp}{n B:Nat}(hn:n≤64)(hB:B≤1073741824)(h:∀p∈l,p.a<n∧p.b<n∧1≤p.c∧p.c≤B)(fr:Bool){i k:Nat}(hi:i<n)(hk:k<n)(Jp:i≠k){d:Int}(hd:Pu (counted fr l) (B*n) i k d):Yl (B*n) d (q7 n l fr i k):=by
 have hE:∀y∈counted fr l,y.f<n∧y.t<n∧1≤y.c:=fun y hy=>by obtain⟨p,hp,rfl⟩:=wA hy;obtain⟨a,b,c,_⟩:=h p hp;exact⟨a,b,c⟩
 have hM:B*n<Ak:=by have:B*n≤1073741824*64:=aks hB hn;show B*n<1099511627776;omega
 rcases Yj (inf:=Ak) (fun y hy=>⟨(hE y hy).1,(hE y hy).2.1⟩) hM hi hk Jp hd with⟨e1,e2⟩|⟨e1,e2⟩
 ·exact .inl ⟨e1,by unfold q7;rw[e2]⟩
 ·refine .inr ⟨e1,?_,by unfold q7;omega⟩;rcases hd with⟨e,_⟩|⟨L,e,_,hr,_⟩
  ·omega
  ·have:1≤L:=by
    rcases hr with⟨h,_⟩|hw
    ·exact absurd h.symm Jp
    ·exact hw.pos fun a b c hc=>(hE _ hc).2.2
   unfold q7;omega
theorem Ym{l:List Fp}{M i k:Nat}{d0 d1:Int}(h0:Pu (counted false l) M i k d0)(h1:Pu (counted true l) M i k d1)(dh:d1≠-1):d0≠-1∧d0≤d1:=by
 have sub:∀y,y∈counted true l→y∈counted false l:=fun y hy=>by unfold counted at hy⊢;obtain⟨p,hp,rfl⟩:=aiR.1 hy;exact aiR.2 ⟨p,aj1.2 ⟨(aj1.1 hp).1,rfl⟩,rfl⟩
 rcases h1 with⟨e,_⟩|⟨L1,e1,_,r1,_⟩
 ·exact absurd e dh
 ·have r:=r1.mem sub;rcases h0 with⟨_,h⟩|⟨L0,e0,_,_,m0⟩
  ·exact absurd r (h L1)
  ·have:=m0 L1 r;omega
theorem Rw(w f:Int)(i k:Nat):(Ms w f i k).length≤2:=by
 unfold Ms;split
 ·simp
 ·rw[ai1];split<;>split<;>simp
theorem Tc(Bi:TY8→Option PV)(n i:Nat)(W F:Nat→Nat→Int)(hn:n≤64)(hi:i<n)(acc:List PV)(ahb:acc.length≤8192):bl.run (gw bl Bi) (eR n W,eR n F,(i:Int),(n:Int),(i:Int),td n (W i),(n:Int),0,acc,())=Bi (eR n W,eR n F,(n:Int),IntKind.i64.wrap ((i:Int)+1),acc++wB n (fun i k=>Ms (W i k) (F i k) i k) i,()):=by
 refine bV (fun k=>(eR n W,eR n F,(i:Int),(n:Int),(i:Int),td n (W i),(n:Int),(k:Int),acc++wB k (fun i k=>Ms (W i k) (F i k) i k) i,())) n (fun k hk rec=>?_) (fun rec=>?_) (by unfold rounds;omega) (by simp[wB])
 ·unfold gw;dsimp only;have hg:decide ((k:Int)<(n:Int))=true:=by simp;omega
  rw[Bf];have hlen:=Am (it:=fun i k=>Ms (W i k) (F i k) i k) (fun i k=>Rw _ _ i k) i k;generalize hA:acc++wB k (fun i k=>Ms (W i k) (F i k) i k) i=A;have hAl:A.length≤8192+128:=by rw[←hA,ai1];omega
  rw[←abW,hA];simp only[hg,IS,aU,GO _ hk,Bh _ hi,U,aaX,cI,E6,aO (show k<9223372036854775807 by omega)];generalize W i k=w;generalize F i k=f;by_cases Jp:i=k
  ·have hb:((i:Int)==(k:Int))=true:=by simp[Jp]
   have hit:Ms w f i k=[]:=AI Jp;simp only[hb,IS,hit,aja]
  ·have hb:((i:Int)==(k:Int))=false:=by rw[ajf];omega
   have hand:∀x:Int,(bif decide (x>0)then some (decide (x≤14400))else some false)=some (decide (0<x∧x≤14400)):=fun x=>by
    by_cases h1:x>0
    ·have:(0<x∧x≤14400)↔x≤14400:=⟨fun h=>h.2,fun h=>⟨h1,h⟩⟩;rw[decide_eq_true h1,cond_true,decide_eq_decide.2 this.symm]
    ·have:¬(0<x∧x≤14400):=fun h=>h1 h.1;rw[aj8 h1,cond_false,aj8 this]
   have hr1:(A++[PV.agg [.int .i64 i,.int .i64 k,.int .i64 w,.bool (f==w)]]).length*32≤ar∧0<32:=e9 (by simp;omega);have Sa:(A++[PV.agg [.int .i64 i,.int .i64 k,.int .i64 w,.bool (f==w)]]++[PV.agg [.int .i64 i,.int .i64 k,.int .i64 f,.bool true]]).length*32≤ar∧0<32:=e9 (by simp;omega);have Xq:(A++[PV.agg [.int .i64 i,.int .i64 k,.int .i64 f,.bool true]]).length*32≤ar∧0<32:=e9 (by simp;omega);have dh:(f !=w)=decide (f≠w):=by
    by_cases h:f=w
    ·simp[h]
    ·simp[h]
   have hit:Ms w f i k=(if 0<w∧w≤14400 then[WS i k w (f==w)]else[])++(if f≠w∧0<f∧f≤14400 then[WS i k f true]else[]):=By Jp;simp only[hb,cT,T1,hand,U,dh,IL,hit,AI hr1,AI Sa,AI Xq];by_cases h1:0<w∧w≤14400
   ·by_cases h2:f≠w
    ·by_cases h3:0<f∧f≤14400
     ·rw[AI h1,AI h2,AI h3,AI h1,AI ⟨h2,h3⟩,abW];rfl
     ·rw[AI h1,AI h2,By h3,AI h1,By (fun h=>h3 h.2)];rfl
    ·rw[AI h1,By h2,AI h1,By (fun h=>h2 h.1)];rfl
   ·by_cases h2:f≠w
    ·by_cases h3:0<f∧f≤14400
     ·rw[By h1,AI h2,AI h3,By h1,AI ⟨h2,h3⟩];rfl
     ·rw[By h1,AI h2,By h3,By h1,By (fun h=>h3 h.2)];simp
    ·rw[By h1,By h2,By h1,By (fun h=>h2 h.1)];simp
 ·unfold gw;dsimp only;rw[By (by simp)]
theorem Px(n:Nat)(W F:Nat→Nat→Int)(hn:n≤64){es':List PV}(hs:vQ 4 (fun c a b=>bP [a,b]) (yP n (fun i k=>Ms (W i k) (F i k) i k) n)=some es'):bl.run (gx bl) (eR n W,eR n F,(n:Int),0,[],())=some (.rs 4 es'):=by
 have hlen:∀i,i≤n→(yP n (fun i k=>Ms (W i k) (F i k) i k) i).length≤8192:=fun i hi=>by have h1:=Ac (it:=fun i k=>Ms (W i k) (F i k) i k) (fun i k=>Rw _ _ i k) n i;have hb:2*n*i≤2*64*64:=aks (by omega) (by omega);omega
 refine bV (fun i=>(eR n W,eR n F,(n:Int),(i:Int),yP n (fun i k=>Ms (W i k) (F i k) i k) i,())) n (fun i hi rec=>?_) (fun rec=>?_) (by unfold rounds;omega) rfl
 ·unfold gx;dsimp only;have hg:decide ((i:Int)<(n:Int))=true:=by simp;omega
  have hrl:((td n (W i)).length:Int)=(n:Int):=by simp[td]
  rw[AI hg,aU,Bh _ hi,U,aaX,U,hrl,Tc rec n i W F hn hi _ (hlen i (by omega)),Bg,aO (by omega)]
 ·unfold gx;dsimp only;have h:=hlen n (aiJ _);rw[By (by simp),AI (by(first|refine⟨rfl,?_,rfl⟩|refine⟨rfl,?_⟩);unfold ar;omega),hs];rfl
def kI:PV→Int
 |.int _ n=>n
 |_=>0
def c3(x y:Int):Int:=if x<y then-1 else if x>y then 1 else 0
def or3(a b c:Int):Int:=if a≠0 then a else if b≠0 then b else c
def ZD(a b:List PV):Int:=or3 (c3 (kI (a.getD 0 .bad)) (kI (b.getD 0 .bad))) (c3 (kI (a.getD 1 .bad)) (kI (b.getD 1 .bad))) (c3 (kI (a.getD 2 .bad)) (kI (b.getD 2 .bad)))
theorem Py(x y:Int):dK [.int .i64 x,.int .i64 y]=some (.int .i64 (c3 x y)):=by
 have h:∀z:Int,¬(z !=z)=true:=fun z=>by simp
 simp only[dK,ow,E6,U,By (h x),By (h y),IL];unfold c3;split
 ·rfl
 ·split<;>rfl
theorem adI(a b c:Int):mA [.rs 1 [.int .i64 a,.int .i64 b,.int .i64 c]]=some (.int .i64 (or3 a b c)):=by
 have e0:ay 1 (.rs 1 [.int .i64 a,.int .i64 b,.int .i64 c])=some [.int .i64 a,.int .i64 b,.int .i64 c]:=by simp[ay]
 simp only[mA,yF,e0,U];obtain⟨es,F8⟩:∃es,es=[PV.int .i64 a,.int .i64 b,.int .i64 c]:=⟨_,rfl⟩;have hl:((es.length:Nat):Int)=3:=by rw[F8];rfl
 rw[←F8];have hb:∀(k:Nat)(x:Int),es[k]?=some (.int .i64 x)→k<3→∀rec,eu (0,es,((es.length:Nat):Int),(k:Int),()) rec=if x≠0 then some (.int .i64 x)else rec (0,es,((es.length:Nat):Int),((k+1:Nat):Int),()):=fun k x hx hk rec=>by
  unfold eu;dsimp only;have hg:decide ((k:Int)<((es.length:Nat):Int))=true:=by rw[hl];simp;omega
  rw[AI hg,aU,hx,U,cI,E6,U,aO (by omega)];by_cases h:x=0
  ·subst h;rfl
  ·have:(x !=0)=true:=by simpa using h
   rw[AI this,AI h]
 have he:∀rec,eu (0,es,((es.length:Nat):Int),((3:Nat):Int),()) rec=some (.int .i64 0):=fun rec=>by
  unfold eu;dsimp only;have hg:¬decide (((3:Nat):Int)<((es.length:Nat):Int))=true:=by rw[hl];decide
  rw[By hg]
 have hN:rounds=18446744073709551612+1+1+1+1:=rfl;rw[nu,hN];generalize 18446744073709551612=N;show eu (0,es,((es.length:Nat):Int),((0:Nat):Int),()) _=_;rw[hb 0 a (by rw[F8];rfl) (by omega)];unfold or3;by_cases h1:a≠0
 ·rw[AI h1,AI h1]
 ·rw[By h1,By h1];show eu (0,es,((es.length:Nat):Int),((1:Nat):Int),()) _=_;rw[hb 1 b (by rw[F8];rfl) (by omega)];by_cases h2:b≠0
  ·rw[AI h2,AI h2]
  ·rw[By h2,By h2];show eu (0,es,((es.length:Nat):Int),((2:Nat):Int),()) _=_;rw[hb 2 c (by rw[F8];rfl) (by omega)];by_cases h3:c≠0
   ·rw[AI h3]
   ·rw[By h3];show eu (0,es,((es.length:Nat):Int),((3:Nat):Int),()) _=_;rw[he];have:c=0:=Decidable.not_not.1 h3;rw[this]
def TH(i k:Nat)(s:Int)(b:Bool):List PV:=[.int .i64 i,.int .i64 k,.int .i64 s,.bool b]
theorem V9(i k:Nat)(s:Int)(b:Bool)(i' k':Nat)(s':Int)(b':Bool):bP [xg (TH i k s b),xg (TH i' k' s' b')]=some (.int .i64 (ZD (TH i k s b) (TH i' k' s' b'))):=by have a:∀(w x y z:PV),asAgg 4 (.agg [w,x,y,z])=some ():=fun _ _ _ _=>rfl;have a0:∀(w x y z:PV),cell (.agg [w,x,y,z]) 0=w:=fun _ _ _ _=>rfl;have a1:∀(w x y z:PV),cell (.agg [w,x,y,z]) 1=x:=fun _ _ _ _=>rfl;have a2:∀(w x y z:PV),cell (.agg [w,x,y,z]) 2=y:=fun _ _ _ _=>rfl;have a3:∀(w x y z:PV),cell (.agg [w,x,y,z]) 3=z:=fun _ _ _ _=>rfl;simp only[bP,kU,xg,TH,a,a0,a1,a2,a3,E6,asBool,U,Py,adI];rfl
theorem Pz(x y:Int):(c3 x y<0↔x<y)∧(c3 x y=0↔x=y):=by unfold c3;split<;>(try split)<;>constructor<;>constructor<;>intro h<;>first|omega|(exfalso;omega)
theorem Bj(i k:Nat)(s:Int)(b:Bool)(i' k':Nat)(s':Int)(b':Bool):ZD (TH i k s b) (TH i' k' s' b')<0↔i<i'∨(i=i'∧(k<k'∨(k=k'∧s<s'))):=by
 show or3 (c3 (i:Int) (i':Int)) (c3 (k:Int) (k':Int)) (c3 s s')<0↔_;have h1:=Pz (i:Int) (i':Int);have h2:=Pz (k:Int) (k':Int);have h3:=Pz s s';unfold or3;split
 ·constructor<;>intro h<;>omega
 ·split
  ·constructor<;>intro h<;>omega
  ·constructor<;>intro h<;>omega
def IsF(e:List PV):Prop:=∃i k s b,e=TH i k s b
variable{ns:List (List PV)}
theorem PA(h:ns.Pairwise fun a b=>ZD a b<0):∀a∈ns,∀b∈ns,¬ZD a b<0→¬ZD b a<0→a=b:=by
 induction h with
 |nil=>intro a ha;cases ha
 | @cons x l hx _ ih=>
  intro a ha b hb h1 h2;rcases abX.1 ha with ea|YW
  ·rcases abX.1 hb with eb|gN
   ·rw[ea,eb]
   ·rw[ea]at h1;exact absurd (hx b gN) h1
  ·rcases abX.1 hb with eb|gN
   ·rw[eb]at h2;exact absurd (hx a YW) h2
   ·exact ih a YW b gN h1 h2
theorem Lh(hF:∀e∈ns,IsF e)(h:ns.Pairwise fun a b=>ZD a b<0):jE 4 (fun c a b=>bP [a,b]) ns ns ZD where
 len a ha:=by obtain⟨i,k,s,b,rfl⟩:=hF a ha;rfl
 Up a ha p hp:=by obtain⟨i,k,s,b,rfl⟩:=hF a ha;simp only[TH,abX,ajQ,alj]at hp;rcases hp with rfl|rfl|rfl|rfl<;>rfl
 perm:=List.Perm.refl _
 reads c _ _ a ha b hb:=by obtain⟨i,k,s,q,rfl⟩:=hF a ha;obtain⟨i',k',s',q',rfl⟩:=hF b hb;exact V9 ..
 irrefl a ha:=by obtain⟨i,k,s,q,rfl⟩:=hF a ha;rw[Bj];omega
 trans a ha b hb c hc h1 h2:=by obtain⟨i,k,s,q,rfl⟩:=hF a ha;obtain⟨i',k',s',q',rfl⟩:=hF b hb;obtain⟨i2,k2,s2,q2,rfl⟩:=hF c hc;rw[Bj]at*;omega
 total:=PA h
 sorted:=h.imp_of_mem fun{a b}ha hb sy=>by obtain⟨i,k,s,q,rfl⟩:=hF a ha;obtain⟨i',k',s',q',rfl⟩:=hF b hb;rw[Bj]at*;omega
def itC(w f:Int)(i k:Nat):List (List PV):=if i=k∨w>14400 then[]else TH i k w (f==w)::(if f>w∧f≤14400 then[TH i k f true]else[])
theorem Yn(w f:Int)(i k:Nat):(itC w f i k).map xg=Cw w f i k:=by
 unfold itC Cw;split
 ·rfl
 ·split<;>rfl
def Fq(n:Nat)(W F:Nat→Nat→Int):List (List PV):=(List.range n).flatMap fun i=>(List.range n).flatMap fun k=>itC (W i k) (F i k) i k
theorem A9(n:Nat)(W F:Nat→Nat→Int):eh (Fq n W F)=yP n (fun i k=>Cw (W i k) (F i k) i k) n:=by unfold eh Fq yP wB;rw[List.map_flatMap];congr 1;funext i;rw[List.map_flatMap];congr 1;funext k;exact Yn ..
theorem An{w f:Int}{i k:Nat}{e:List PV}(h:e∈itC w f i k):∃s b,e=TH i k s b:=by
 unfold itC at h;split at h
 ·cases h
 ·rcases abX.1 h with rfl|h
  ·exact⟨_,_,rfl⟩
  ·split at h
   ·simp at h;subst h;exact⟨_,_,rfl⟩
   ·cases h
theorem KY(n:Nat)(W F:Nat→Nat→Int):∀e∈Fq n W F,IsF e:=fun e h=>by obtain⟨i,_,h⟩:=akz.1 h;obtain⟨k,_,h⟩:=akz.1 h;obtain⟨s,b,rfl⟩:=An h;exact⟨i,k,s,b,rfl⟩
theorem Li(n:Nat)(W F:Nat→Nat→Int):(Fq n W F).Pairwise fun a b=>ZD a b<0:=by
 unfold Fq;rw[alf];refine⟨fun i _=>?_,List.pairwise_lt_range.imp fun{i i'}Tx x hx y hy=>?_⟩
 ·rw[alf];refine⟨fun k _=>?_,List.pairwise_lt_range.imp fun{k k'}E5 x hx y hy=>?_⟩
  ·unfold itC;split
   ·exact .nil
   ·split
    ·rename_i h;refine ajr.2 ⟨fun y hy=>?_,ak4 ..⟩;simp at hy;subst hy;rw[Bj];omega
    ·exact ak4 ..
  ·obtain⟨s,b,rfl⟩:=An hx;obtain⟨s',b',rfl⟩:=An hy;rw[Bj];omega
 ·obtain⟨k,_,hx⟩:=akz.1 hx;obtain⟨k',_,hy⟩:=akz.1 hy;obtain⟨s,b,rfl⟩:=An hx;obtain⟨s',b',rfl⟩:=An hy;rw[Bj];omega
theorem Pg(l:List Fp)(n:Nat)(hn:n≤64)(hl:l.length≤4096)(h:∀p∈l,p.a<n∧p.b<n∧1≤p.c∧p.c≤14400):eg [.rs 4 (l.map Fp.pv),.int .i64 n]=some (.rs 4 (eh (Fq n (q7 n l false) (q7 n l true))))∧fB [.rs 4 (l.map Fp.pv),.int .i64 n]=some (.rs 4 (eh (Fq n (q7 n l false) (q7 n l true)))):=by
 have hr:=Pw l n hn hl fun p hp=>⟨(h p hp).1,(h p hp).2.1⟩;rw[←A9]at hr;refine⟨?_,hr⟩;have hB:(14400:Nat)≤1073741824:=by omega
 obtain⟨D0,d0,e0⟩:=Rt l n 14400 hn hl hB (fun p hp=>⟨(h p hp).1,(h p hp).2.1,(h p hp).2.2.2⟩) false;obtain⟨D1,d1,e1⟩:=Rt l n 14400 hn hl hB (fun p hp=>⟨(h p hp).1,(h p hp).2.1,(h p hp).2.2.2⟩) true;have hM:14400*n<Ak:=by show 14400*n<1099511627776;omega
 have Nf:yP n (fun i k=>Ms (D0 i k) (D1 i k) i k) n=eh (Fq n (q7 n l false) (q7 n l true)):=by
  rw[A9];unfold yP wB;rw[akA,akA];congr 1;apply ai7;intro i hi;rw[akA,akA];congr 1;apply ai7;intro k hk;have hi:=ajV.1 hi;have hk:=ajV.1 hk;dsimp only;by_cases Jp:i=k
  ·rw[show Ms (D0 i k) (D1 i k) i k=[]from AI Jp,show Cw (q7 n l false i k) (q7 n l true i k) i k=[]from AI (.inl Jp)]
  ·exact adH hM (Rv hn hB h false hi hk Jp (d0 i k hi hk)) (Rv hn hB h true hi hk Jp (d1 i k hi hk)) (Ym (d0 i k hi hk) (d1 i k hi hk)) i k
 have a0:ay 4 (.rs 4 (l.map Fp.pv))=some (l.map Fp.pv):=by simp[ay]
 have a1:∀es,ay 1 (.rs 1 es)=some es:=fun es=>by simp[ay]
 have hlen:((eR n D0).length:Int)=(n:Int):=by simp[eR]
 simp only[eg,na,a0,E6,U,e0,e1,a1,hlen];exact Px n D0 D1 hn (by rw[Nf];exact Sy (Lh (KY _ _ _) (Li _ _ _)))
end Go.Ab.Nw
