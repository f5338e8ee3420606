import Derived.Test.YtmbihgjlollbeaaGreatNwP1
namespace Go.Ab.Nw
set_option maxRecDepth 100000
set_option linter.all false
def VA(E:List Ed)(M:Nat)(s v:Nat)(d:Int):Prop:=(d= -1∧∀L,¬Qg E s v L)∨∃L:Nat,d=L∧L≤M∧Qg E s v L∧∀L',Qg E s v L'→L≤L'
theorem VA.unique{E:List Ed}{M M' s v:Nat}{d d':Int}(h:VA E M s v d)(h':VA E M' s v d'):d=d':=by
 rcases h with⟨e,h⟩|⟨L,e,_,h1,h2⟩
 ·rcases h' with⟨e',_⟩|⟨L',_,_,h1',_⟩
  ·omega
  simp_all
 ·rcases h' with⟨_,h'⟩|⟨L',e',_,h1',h2'⟩
  ·exact absurd h1 (h' L)
  grind
theorem Qg.mem{E E':List Ed}(h:∀y,y∈E→y∈E'){s v L:Nat}(hr:Qg E s v L):Qg E' s v L:=by
 rcases hr with hr|hr
 ·exact .inl hr
 ·exact .inr (hr.mono fun i j c hc=>h _ hc)
theorem VA.mem{E E':List Ed}(h:∀y,y∈E↔y∈E'){M s v:Nat}{d:Int}(hd:VA E M s v d):VA E' M s v d:=by
 rcases hd with⟨e,h1⟩|⟨L,e,hM,h1,h2⟩
 ·exact .inl ⟨e,fun L hL=>h1 L (hL.mem fun y hy=>(h y).2 hy)⟩
 ·exact .inr ⟨L,e,hM,h1.mem fun y hy=>(h y).1 hy,fun L' hL=>h2 L' (hL.mem fun y hy=>(h y).2 hy)⟩
def B5(n:Nat)(D:Nat→Int):List PV:=(List.range n).map fun v=>.int .i64 (D v)
def fH(n:Nat)(D:Nat→Nat→Int):List PV:=(List.range n).map fun s=>.rs 1 (B5 n (D s))
variable{D:Nat→Nat→Int}
theorem SQ{n:Nat}{D':Nat→Nat→Int}(h:∀s v,s<n→v<n→D s v=D' s v):fH n D=fH n D':=by unfold fH;apply asD;simp_all[B5,congr,asD]
theorem aec(E:List Ed)(n B:Nat)(hn:n≤64)(hE:E.length≤4096)(hB:B≤1073741824)(h:∀y∈E,y.f<n∧y.t<n∧y.c≤B):∃D:Nat→Nat→Int,(∀s v,s<n→v<n→VA E (B*n) s v (D s v))∧jW [.int .i64 n,.rs 3 (E.map Ed.pv)]=some (.aG [.rs 1 (fH n D),.int .i64 0]):=by
 have h':∀y∈E,y.f<n∧y.t<n∧y.c≤1073741824:=fun y hy=>⟨(h y hy).1,(h y hy).2.1,by grind⟩;have hG:=aeb E n hn hE h';have each:∀s,∃o:sm,s<n→(∃pu,DI E n s B o pu [])∧iy [.int .i64 n,.rm 3 ((SP (Gi E)).map fun x=>x.1) ((SP (Gi E)).map fun x=>x.2.rP),.int .i64 s]=some (.rs 3 (eE n o)):=fun s=>by
  by_cases hs:s<n
  ·grind [abc]
  ·exact⟨fun _=>none,fun h=>absurd h hs⟩
 obtain⟨o,ho⟩:=Classical.axiomOfChoice each;refine⟨fun s v=>Qi (o s v),fun s v hs hv=>?_,?_⟩
 ·obtain⟨⟨pu,hI⟩,_⟩:=ho s hs;have:=hI.done h hv;cases hl:o s v with
  |none=>rw[hl]at this;exact .inl ⟨by dsimp only;rw[hl];rfl,this⟩
  |some p=>obtain⟨L,e⟩:=p;rw[hl]at this;exact .inr ⟨L,by dsimp only;rw[hl];rfl,this.1,this.2.1,this.2.2⟩
 ·have e0:ao 3 (.rs 3 (E.map Ed.pv))=some (E.map Ed.pv):=by rfl
  have ee:(0:Int)≤(n:Int)∧(n:Int)≤(n:Int)∧n*24≤ah∧0<24∧0<1:=by grind [ah]
  have hz:((0:Int) !=0)=false:=rfl;simp only[jW,BI,M8,e0,U,ad9 E n hn hE h',hz,cQ,IS,Qk E hE,cY,BY,asc,IN ee,as1];refine bf (fun k=>((n:Int),PV.rm 3 ((SP (Gi E)).map fun x=>x.1) ((SP (Gi E)).map fun x=>x.2.rP),(n:Int),(k:Int),yK n k (fun s=>.rs 1 (B5 n fun v=>Qi (o s v))) (.rs 0 []),())) n (fun k hk rec=>?_) (fun rec=>?_) (by unfold rounds;omega) ?_
  ·unfold ov;dsimp only;have hg:decide ((k:Int)<(n:Int))=true:=by simp;omega
   have e3:ao 3 (.rs 3 (eE n (o k)))=some (eE n (o k)):=by rfl
   have e1:ao 1 (.rs 1 ((List.range n).map fun v=>PV.int .i64 (Qi (o k v))))=some ((List.range n).map fun v=>PV.int .i64 (Qi (o k v))):=by rfl
   rw[IN hg,(ho k hk).2,U,e3,U,Vz n hn,U,e1,U,IN (Kk (by rw[SK];omega)),asc,SL hk,U,ab (by omega)];simp_all[SM,B5,Qi]
  ·unfold ov;dsimp only;rw[IT (by simp),SN];rfl
  ·rw[OT];rfl
theorem aed(E E':List Ed)(n B:Nat)(hn:n≤64)(hE:E'.length≤4096)(hB:B≤1073741824)(h:∀y∈E,y.f<n∧y.t<n∧y.c≤B)(he:∀y,y∈E↔y∈E')(hD:∀s v,s<n→v<n→VA E (B*n) s v (D s v)):jW [.int .i64 n,.rs 3 (E'.map Ed.pv)]=some (.aG [.rs 1 (fH n D),.int .i64 0]):=by obtain⟨D',d1,d2⟩:=aec E' n B hn hE hB fun y hy=>h y ((he y).2 hy);rw[d2,SQ fun s v hs hv=>((hD s v hs hv).mem he).unique (d1 s v hs hv)]
structure Fp where
 a:Nat
 b:Nat
 c:Nat
 free:Bool
 deriving DecidableEq
def Fp.pv(p:Fp):PV:=.agg [.int .i64 p.a,.int .i64 p.b,.int .i64 p.c,.bool p.free]
theorem fp0(p:Fp):cell p.pv 0=.int .i64 p.a:=rfl
theorem fp1(p:Fp):cell p.pv 1=.int .i64 p.b:=rfl
theorem fp2(p:Fp):cell p.pv 2=.int .i64 p.c:=rfl
theorem fp3(p:Fp):cell p.pv 3=.bool p.free:=rfl
def Fp.ed(p:Fp):Ed:=⟨p.a,p.b,p.c⟩
def Gj(z:Ed):List Ed→List Ed
 |[]=>[z]
 |e::r=>if z.f=e.f∧z.t=e.t then z::r else e::Gj z r
def Hy(a b:Nat):List Ed→Option Nat
 |[]=>none
 |e::r=>if a=e.f∧b=e.t then some e.c else Hy a b r
theorem Mw(a b:Nat)(z:Ed):∀m,Hy a b (Gj z m)=if a=z.f∧b=z.t then some z.c else Hy a b m
 |[]=>rfl
 |e::r=>by
  simp only[Gj];by_cases h:z.f=e.f∧z.t=e.t
  ·simp_all[IN,Hy,IT]
  ·rw[IT h];simp only[Hy];by_cases h2:a=e.f∧b=e.t
   ·grind
   simp_all[IT,Mw]
theorem SR(z e:Ed):∀m,e∈Gj z m→e=z∨e∈m
 |[],h=>by simp[Gj]at h;exact .inl h
 |x::r,h=>by
  simp only[Gj]at h;split at h
  ·rcases asg.1 h with h|h
   ·exact .inl h
   ·exact .inr (by simp[h])
  ·rcases asg.1 h with h|h
   ·exact .inr (by simp[h])
   ·rcases SR z e r h with h|h
    ·exact .inl h
    ·exact .inr (by simp[h])
theorem SS{a b x:Nat}:∀{m:List Ed},Hy a b m=some x→∃e∈m,e.f=a∧e.t=b∧e.c=x
 |[],h=>by cases h
 |e::r,h=>by
  simp only[Hy]at h;split at h
  ·simp_all
  simp_all[SS]
theorem SU(z:Ed):∀m,(Gj z m).length≤m.length+1
 |[]=>by simp[Gj]
 |e::r=>by
  simp only[Gj];split
  ·simp
  ·have:=SU z r;simp;omega
def Xt(fr:Bool)(m:List Ed)(p:Fp):List Ed:=if(fr&& !p.free)=true then m else match Hy p.a p.b m with
 |none=>Gj p.ed m
 |some x=>if p.c<x then Gj p.ed m else m
def pC(fr:Bool)(l:List Fp):List Ed:=l.foldl (Xt fr) []
theorem OX(fr:Bool)(l:List Fp)(p:Fp):pC fr (l++[p])=Xt fr (pC fr l) p:=by simp[pC]
def counted(fr:Bool)(l:List Fp):List Ed:=(l.filter fun p=> !(fr&& !p.free)).map Fp.ed
theorem Xu(fr:Bool)(l:List Fp):(∀e∈pC fr l,e∈counted fr l)∧(∀e∈counted fr l,∃x,Hy e.f e.t (pC fr l)=some x∧x≤e.c)∧(pC fr l).length≤l.length:=by
 rw[←auq l];induction l.reverse with
 |nil=>simp[pC,counted,aso]
 |cons p l ih=>
  rw[List.reverse_cons,OX];obtain⟨i1,i2,i3⟩:=ih;have hc:counted fr (l.reverse++[p])=counted fr l.reverse++(if(fr&& !p.free)=true then[]else[p.ed]):=by unfold counted;grind
  rw[hc];unfold Xt;by_cases h:(fr&& !p.free)=true
  ·grind
  ·rw[IT h,IT h];have put:(∀e∈Gj p.ed (pC fr l.reverse),e∈counted fr l.reverse++[p.ed]):=fun e he=>by
    rcases SR _ _ _ he with rfl|he
    ·simp
    simp_all
   have len:(Gj p.ed (pC fr l.reverse)).length≤(l.reverse++[p]).length:=by grind [SU,pC]
   cases hb:Hy p.a p.b (pC fr l.reverse)with
   |none=>
    refine⟨put,fun e he=>?_,len⟩;rw[Mw];by_cases hk:e.f=p.ed.f∧e.t=p.ed.t
    ·rw[IN hk];rcases asB.1 he with he|he
     ·obtain⟨x,h1,_⟩:=i2 e he;rw[hk.1,hk.2]at h1;rw[show p.ed.f=p.a from rfl,show p.ed.t=p.b from rfl,hb]at h1;cases h1
     simp_all
    grind
   |some x=>
    dsimp only;by_cases hx:p.c<x
    ·rw[IN hx];refine⟨put,fun e he=>?_,len⟩;rw[Mw];by_cases hk:e.f=p.ed.f∧e.t=p.ed.t
     ·rw[IN hk];rcases asB.1 he with he|he
      ·obtain⟨y,h1,h2⟩:=i2 e he;rw[hk.1,hk.2,show p.ed.f=p.a from rfl,show p.ed.t=p.b from rfl,hb]at h1;cases h1;exact⟨_,rfl,by show p.c≤e.c;omega⟩
      simp_all
     grind
    ·rw[IT hx];refine⟨fun e he=>List.mem_append_left _ (i1 e he),fun e he=>?_,by simp at i3⊢;omega⟩;rcases asB.1 he with he|he
     ·exact i2 e he
     ·simp at he;subst he;exact⟨x,hb,by show x≤p.c;omega⟩
def qT(e:Ed):PV×PV:=(.agg [.int .i64 e.f,.int .i64 e.t,.bool false],.int .i64 e.c)
theorem anu(a b c d:Nat):cz (PV.agg [.int .i64 a,.int .i64 b,.bool false]).cells (PV.agg [.int .i64 c,.int .i64 d,.bool false]).cells=decide (a=c∧b=d):=by
 have h:∀x y:Nat,((x:Int)==(y:Int))=decide (x=y):=fun x y=>by grind
 simp only[PV.cells,cz,peq,as7,h,beq_self_eq_true,Bool.decide_and]
theorem aix(a b:Nat):∀m:List Ed,cB (.agg [.int .i64 a,.int .i64 b,.bool false]) (.int .i64 0) (m.map qT)=.int .i64 (((Hy a b m).getD 0:Nat):Int)∧yb (.agg [.int .i64 a,.int .i64 b,.bool false]) (m.map qT)=(Hy a b m).isSome
 |[]=>⟨rfl,rfl⟩
 |e::r=>by obtain⟨h1,h2⟩:=aix a b r;simp only[asn,qT,cB,yb,anu,Hy];grind
theorem aj0(z:Ed):∀m:List Ed,dI (.agg [.int .i64 z.f,.int .i64 z.t,.bool false]) (.int .i64 z.c) (m.map qT)=(Gj z m).map qT
 |[]=>rfl
 |e::r=>by
  have ih:=aj0 z r;simp only[asn,dI,Gj];rw[show(qT e)=(PV.agg [.int .i64 e.f,.int .i64 e.t,.bool false],PV.int .i64 e.c)from rfl];simp only[anu];by_cases h:z.f=e.f∧z.t=e.t
  ·simp[h,qT]
  ·simp only[h,ass,cQ,IS,asn,ih];rfl
theorem K3{R:Type}{n:Nat}{g:Nat→Option R}{r:R}(hn:0<n)(h:∀i,i<n→g i=some r):yt n g=some r:=by unfold yt;have hh:∃r,∀i,i<n→g i=some r:=⟨r,h⟩;rw[avt hh];grind
theorem abd{n:Nat}(hn:n≤64)(r:PV)(Hc:List Ed→Prop)(tQ:∀acc,Hc acc→∃D,jW [.int .i64 n,.rs 3 (acc.map Ed.pv)]=some (.aG [.rs 1 D,.int .i64 0])∧r=.rs 1 D):∀(rem acc:List Ed)(N:Nat),rem.length<N→acc.length+rem.length≤4096→(∀l,(∀y,y∈l↔y∈acc∨y∈rem)→l.length=acc.length+rem.length→Hc l)→cE (eN ba) N ((n:Int),acc.map Ed.pv,rem.map qT,())=some r:=by
 intro rem;generalize hk:rem.length=k;induction k generalizing rem with
 |zero=>intro acc N hN hl hg;have:rem=[]:=ash hk;subst this;obtain⟨N,rfl⟩:∃m,N=m+1:=⟨N-1,by omega⟩;simp only[cE];unfold eN;dsimp only;rw[IN (show(List.map qT []).isEmpty=true from rfl)];obtain⟨D,h1,h2⟩:=tQ acc (hg acc (fun y=>by simp) (by simp));have e2:cg 2 (.aG [.rs 1 D,.int .i64 0])=some [.rs 1 D,.int .i64 0]:=rfl;simp_all[ao,U,abm,ahH,M8]
 |succ k ih=>
  intro acc N hN hl hg;obtain⟨N,rfl⟩:∃m,N=m+1:=⟨N-1,by omega⟩;simp only[cE];generalize iV:cE (eN ba) N=rec;unfold eN;dsimp only
  have cU:¬(rem.map qT).isEmpty=true:=by cases rem with
   |nil=>simp at hk
   |cons _ _=>simp
  rw[IT cU];refine K3 (by simp;omega) fun i hi=>?_;have uI:i<rem.length:=by simpa using hi
  obtain⟨e,he⟩:∃e,rem[i]?=some e:=⟨_,cN uI⟩;have Kb:(rem.map qT)[i]?=some (qT e):=by simp_all
  have ee:(acc.map Ed.pv++[PV.agg [.int .i64 e.f,.int .i64 e.t,.int .i64 e.c]]).length*24≤ah∧0<24:=by grind [List.length_append,List.length_map,List.length_cons,List.length_nil,ah]
  have Nj:acc.map Ed.pv++[PV.agg [.int .i64 e.f,.int .i64 e.t,.int .i64 e.c]]=(acc++[e]).map Ed.pv:=by simp[Ed.pv]
  have aj1:(rem.map qT).eraseIdx i=(rem.eraseIdx i).map qT:=by apply asw;grind
  have hle:(rem.eraseIdx i).length=k:=by grind
  rw[Kb,U];rw[Nj]at ee;simp only[qT,ag3,ann,ajZ,M8,U,Nj,IN ee,aj1];rw[←iV];refine ih (rem.eraseIdx i) hle (acc++[e]) N (by omega) (by simp;omega) fun l Wz TC=>hg l (fun y=>?_) (by rw[TC];simp;omega);rw[Wz];have bB:y∈rem↔y=e∨y∈rem.eraseIdx i:=by
   rw[List.mem_eraseIdx_iff_getElem?];constructor
   ·grind [List.getElem?_of_mem,Option.some.inj]
   grind
  grind
theorem Qg.leq{E E':List Ed}(h:∀e∈E,∃e'∈E',e'.f=e.f∧e'.t=e.t∧e'.c≤e.c){s v L:Nat}(hr:Qg E s v L):∃L',L'≤L∧Qg E' s v L':=by
 rcases hr with⟨h1,h2⟩|hr
 ·exact⟨L,aso _,.inl ⟨h1,h2⟩⟩
 ·obtain⟨L',l1,l2⟩:=hr.leq (w':=ew E') fun i j c hc=>by
   obtain⟨e',m,e1,e2,e3⟩:=h _ hc;refine⟨e'.c,e3,?_⟩;unfold ew;have:(⟨i,j,e'.c⟩:Ed)=e':=by have e1:e'.f=i:=e1;have e2:e'.t=j:=e2;rw[←e1,←e2]
   rw[this];omega
  exact⟨L',l1,.inr l2⟩
theorem aee{fr:Bool}{l:List Fp}{M s v:Nat}{d:Int}(h:VA (pC fr l) M s v d):VA (counted fr l) M s v d:=by
 obtain⟨b1,b2,_⟩:=Xu fr l;have low:∀{L},Qg (counted fr l) s v L→∃L',L'≤L∧Qg (pC fr l) s v L':=fun hr=>hr.leq fun e he=>by grind [SS]
 rcases h with⟨e,h1⟩|⟨L,e,hM,h1,h2⟩
 ·refine .inl ⟨e,fun L hL=>?_⟩;simp_all
 ·refine .inr ⟨L,e,hM,h1.mem b1,fun L' hL=>?_⟩;grind
theorem DH{fr:Bool}{l:List Fp}{e:Ed}(h:e∈counted fr l):∃p∈l,p.ed=e:=by unfold counted at h;grind
theorem Xv(l:List Fp)(n B:Nat)(hn:n≤64)(hl:l.length≤4096)(hB:B≤1073741824)(h:∀p∈l,p.a<n∧p.b<n∧p.c≤B)(fr:Bool):∃D:Nat→Nat→Int,(∀s v,s<n→v<n→VA (counted fr l) (B*n) s v (D s v))∧fy [.rs 4 (l.map Fp.pv),.int .i64 n,.bool fr]=some (.rs 1 (fH n D)):=by
 obtain⟨b1,b2,b3⟩:=Xu fr l;have hbe:∀y∈pC fr l,y.f<n∧y.t<n∧y.c≤B:=fun y hy=>by obtain⟨p,hp,rfl⟩:=DH (b1 y hy);exact h p hp
 obtain⟨D,d1,d2⟩:=aec (pC fr l) n B hn (by omega) hB hbe;refine⟨D,fun s v hs hv=>aee (d1 s v hs hv),?_⟩;have e0:ao 4 (.rs 4 (l.map Fp.pv))=some (l.map Fp.pv):=by rfl
 simp only[fy,oU,e0,U,M8,asBool];refine bf (fun k=>((n:Int),fr,l.map Fp.pv,((l.map Fp.pv).length:Int),(k:Int),(pC fr (l.take k)).map qT,())) l.length (fun k hk rec=>?_) (fun rec=>?_) (by unfold rounds;omega) (by rfl)
 ·unfold lF;dsimp only;have hg:decide ((k:Int)<((l.map Fp.pv).length:Int))=true:=by simp;omega
  obtain⟨p,hp⟩:∃p,l[k]?=some p:=⟨_,cN hk⟩;have Kb:(l.map Fp.pv)[k]?=some p.pv:=by simp_all
  have htk:l.take (k+1)=l.take k++[p]:=by rw[auO,hp];rfl
  have hr7:(bif fr then(asBool (cell p.pv 3)).bind fun b6=>some !b6 else some false)=some (fr&& !p.free):=by rw[fp3];cases fr<;>rfl
  obtain⟨g1,g2⟩:=aix p.a p.b (pC fr (l.take k));rw[IN hg,ag,Kb,U,hr7,U,ab (by omega),htk,OX];unfold Xt;by_cases hf:(fr&& !p.free)=true
  ·simp_all
  ·rw[IT hf,IT hf];simp only[fp0,fp1,fp2,M8,U,g1,g2];cases hb:Hy p.a p.b (pC fr (l.take k))with
   |none=>simp only[auH,asr,cond_true,U,BY];rw[show(p.c:Int)=((p.ed.c:Nat):Int)from rfl,show(p.a:Int)=((p.ed.f:Nat):Int)from rfl,show(p.b:Int)=((p.ed.t:Nat):Int)from rfl,aj0]
   |some x=>
    simp only[at7,aiI,cond_false,U,ate];by_cases hx:p.c<x
    ·have hd:decide ((p.c:Int)<(x:Int))=true:=by simp;omega
     simp only[hd,BY,IN hx];rw[show(p.c:Int)=((p.ed.c:Nat):Int)from rfl,show(p.a:Int)=((p.ed.f:Nat):Int)from rfl,show(p.b:Int)=((p.ed.t:Nat):Int)from rfl,aj0]
    grind
 ·unfold lF;dsimp only;have Wz:((pC fr (l.take l.length)).map qT).length≤maxLen:=by grind [List.take_length,List.length_map,maxLen,decide]
  have ee:(0:Int)≤0∧0≤((((pC fr (l.take l.length)).map qT).length:Nat):Int)∧((((pC fr (l.take l.length)).map qT).length:Nat):Int).toNat*24≤ah∧0<24∧0<3:=by grind [Int.toNat_natCast,List.take_length,List.length_map,ah]
  rw[IT (by simp),IN Wz,IN ee,asJ,pL];have hp:=abd hn (.rs 1 (fH n D)) (fun acc=>(∀y,y∈pC fr l↔y∈acc)∧acc.length≤4096) (fun acc⟨h1,h2⟩=>⟨_,aed (pC fr l) acc n B hn h2 hB hbe h1 d1,rfl⟩) (pC fr l) [] rounds (by unfold rounds;omega) (by simp;omega) (fun l' h1 h2=>⟨fun y=>by rw[h1];simp,by rw[h2];simp;omega⟩);exact hp
abbrev Mx:=Nat→Nat→Nat
def Ql(d:Mx)(i j x:Nat):Mx:=fun a b=>if a=i∧b=j then x else d a b
def dj(k i:Nat)(d:Mx):Nat→Mx
 |0=>d
 |j+1=>Ql (dj k i d j) i j (min (dj k i d j i j) (dj k i d j i k+dj k i d j k j))
def di(n k:Nat)(d:Mx):Nat→Mx
 |0=>d
 |i+1=>dj k i (di n k d i) n
def dk(n:Nat)(d:Mx):Nat→Mx
 |0=>d
 |k+1=>di n k (dk n d k) n
structure Mid(w:Nat→Nat→Nat→Prop)(inf n k i j:Nat)(d:Mx):Prop where
 fw:Fw w inf n d
 px:∀a b,a<n→b<n→xg w k a b (d a b)
 new:∀a b,a<n→b<n→(a<i∨(a=i∧b<j))→xg w (k+1) a b (d a b)
variable {w:Nat→Nat→Nat→Prop} {inf n:Nat}
theorem xg.le{k i j x y:Nat}(h:xg w k i j x)(hy:y≤x):xg w k i j y:=fun L hL=>asT hy (h L hL)
theorem Mid.cell{k i j:Nat}{d:Mx}(h:Mid w inf n k i j d)(hi:i<n)(hj:j<n)(hk:k<n):Mid w inf n k i (j+1) (Ql d i j (min (d i j) (d i k+d k j))):=by
 obtain⟨h1,h2,h3⟩:=ahv h.fw hi hj hk (x:=min (d i j) (d i k+d k j)) rfl (d':=Ql d i j (min (d i j) (d i k+d k j))) (fun a b=>rfl);refine⟨h1,fun a b ha hb=>(h.px a b ha hb).le (h2 a b),fun a b ha hb hd=>?_⟩;by_cases e:a=i∧b=j
 ·obtain⟨rfl,rfl⟩:=e;exact h3 (h.px _ _ ha hk) (h.px _ _ hk hb) (h.px _ _ ha hb)
 ·exact(h.new a b ha hb (by omega)).le (h2 a b)
theorem Mid.row{k i:Nat}{d:Mx}(h:Mid w inf n k i 0 d)(hi:i<n)(hk:k<n):∀j,j≤n→Mid w inf n k i j (dj k i d j)
 |0,_=>h
 |j+1,hj=>(Mid.row h hi hk j (by omega)).cell hi (by omega) hk
theorem Mid.rows{k:Nat}{d:Mx}(h:Mid w inf n k 0 0 d)(hk:k<n):∀i,i≤n→Mid w inf n k i 0 (di n k d i)
 |0,_=>h
 |i+1,hi=>by have:=(Mid.rows h hk i (by omega)).row (by omega) hk n (aso _);exact⟨this.fw,this.px,fun a b ha hb hd=>this.new a b ha hb (by omega)⟩
structure aef(w:Nat→Nat→Nat→Prop)(inf n k:Nat)(d:Mx):Prop where
 fw:Fw w inf n d
 low:∀a b,a<n→b<n→xg w k a b (d a b)
theorem aef.rounds{d:Mx}(h:aef w inf n 0 d):∀k,k≤n→aef w inf n k (dk n d k)
 |0,_=>h
 |k+1,hk=>by have ih:=aef.rounds h k (by omega);have:=Mid.rows (k:=k) ⟨ih.fw,ih.low,fun a b ha hb hd=>by omega⟩ (by omega) n (aso _);exact⟨this.fw,fun a b ha hb=>this.new a b ha hb (.inl ha)⟩
def Xw(inf:Nat):Mx:=fun _ _=>inf
def lay(d:Mx)(e:Ed):Mx:=Ql d e.f e.t (min (d e.f e.t) e.c)
def start(inf:Nat)(E:List Ed):Mx:=E.foldl lay (Xw inf)
theorem My(inf:Nat)(E:List Ed)(e:Ed):start inf (E++[e])=lay (start inf E) e:=by simp[start]
theorem aeg(E:List Ed):(∀i j,start inf E i j≤inf)∧(∀i j,start inf E i j<inf→(⟨i,j,start inf E i j⟩:Ed)∈E)∧∀e∈E,start inf E e.f e.t≤e.c:=by
 rw[←auq E];induction E.reverse with
 |nil=>simp[aso,start,Xw]
 |cons e l ih=>
  rw[List.reverse_cons,My];obtain⟨i1,i2,i3⟩:=ih;have hl:∀a b,lay (start inf l.reverse) e a b=if a=e.f∧b=e.t then min (start inf l.reverse e.f e.t) e.c else start inf l.reverse a b:=fun a b=>rfl;refine⟨fun a b=>?_,fun a b h=>?_,fun z hz=>?_⟩
  ·grind
  ·rw[hl]at h⊢;split
   ·rename_i hk;rw[IN hk]at h;by_cases hm:start inf l.reverse e.f e.t≤e.c
    ·simp_all
    ·rw[show min (start inf l.reverse e.f e.t) e.c=e.c by omega,hk.1,hk.2];simp
   simp_all
  grind
theorem Mz(E:List Ed):aef (ew E) inf n 0 (start inf E):=by obtain⟨h1,h2,h3⟩:=aeg (inf:=inf) E;exact⟨⟨fun i j _ _=>h1 i j,fun i j _ _ h=>.Mu (h2 i j h)⟩,fun a b _ _ L hL=>h3 ⟨a,b,L⟩ hL⟩
theorem ahA{E:List Ed}{M:Nat}(hE:∀y∈E,y.f<n∧y.t<n)(hM:M<inf){i j:Nat}(hi:i<n)(hj:j<n)(T2:i≠j){D:Int}(hD:VA E M i j D):(D= -1∧dk n (start inf E) n i j=inf)∨(D=(dk n (start inf E) n i j:Int)∧dk n (start inf E) n i j≤M):=by
 have hd:=(Mz (n:=n) (inf:=inf) E).rounds n (aso _);have rch:∀L,Qg E i j L↔nG (ew E) i j L:=fun L=>⟨fun h=>by rcases h with⟨h,_⟩|h;exact absurd h.symm T2;omega,.inr⟩;have hs:=ahw (w:=ew E) (fun a b c h=>(hE _ h).1) hd.fw hi hj (hd.low i j hi hj) (fun L ab6 hw=>by
  rcases hD with⟨_,h⟩|⟨L',_,hle,h1,h2⟩
  ·simp_all
  grind)
 rcases hD with⟨e,h⟩|⟨L',e,hle,h1,h2⟩
 ·left;refine⟨e,?_⟩;have ar8:=hd.fw.top i j hi hj;by_cases cd:dk n (start inf E) n i j<inf
  ·exact absurd ((rch _).2 (hd.fw.real i j hi hj cd)) (h _)
  omega
 ·right;have:(if dk n (start inf E) n i j<inf then some (dk n (start inf E) n i j)else none)=some L':=hs.unique ⟨(rch L').1 h1,fun L'' hw=>h2 L'' ((rch L'').2 hw)⟩;simp_all
def Hz(n:Nat)(r:Nat→Nat):List PV:=(List.range n).map fun j=>.int .i64 (r j)
def uk(n:Nat)(d:Mx):List PV:=(List.range n).map fun i=>.uS 1 (Hz n (d i))
theorem DJ(n:Nat)(d:Mx):(uk n d).length=n:=by simp[uk]
theorem AD(n:Nat)(r:Nat→Nat):(Hz n r).length=n:=by simp[Hz]
theorem AE{n i:Nat}(d:Mx)(h:i<n):(uk n d)[i]?=some (.uS 1 (Hz n (d i))):=by simp[uk,h]
theorem DK{n j:Nat}(r:Nat→Nat)(h:j<n):(Hz n r)[j]?=some (.int .i64 (r j)):=by simp[Hz,h]
theorem SV{n i j:Nat}(d:Mx)(x:Nat)(hi:i<n)(hj:j<n):(uk n d).set i (.uS 1 ((Hz n (d i)).set j (.int .i64 x)))=uk n (Ql d i j x):=by
 apply asw;intro a;rw[asN];by_cases e:i=a
 ·subst e;rw[IN rfl,IN (by rw[DJ];omega),AE _ hi];congr 2;apply asw;intro b;rw[asN];by_cases e:j=b
  ·subst e;rw[IN rfl,IN (by rw[AD];omega),DK _ hj];simp[Ql]
  ·rw[IT e];by_cases hb:b<n
   ·simp_all[DK,Ql,Ne.symm]
   simp_all[atA,AD]
 ·rw[IT e];by_cases ha:a<n
  ·rw[AE _ ha,AE _ ha];simp_all[congr,Hz,asD,Ql,Ne.symm]
  simp_all[atA,DJ]
theorem asR(es:List PV):fT 1 (cell (.uS 1 es) 0)=some es:=rfl
theorem cI(x:Int):cell (.int .i64 x) 0=.int .i64 x:=rfl
theorem anv(e p:PV):setRow 1 e 0 p=p:=rfl
theorem anw(q p:PV):setCells 1 q 0 1 p=p:=rfl
theorem ahB(a b:Nat)(hb:b≤4398046511104):(if IntKind.i64.wrap (b:Int)<(a:Int)then IntKind.i64.wrap (b:Int)else(a:Int))=((min a b:Nat):Int):=by grind [aZ]
theorem aj2(Fs:Int×Int×Int×List PV×Unit→Option PV)(n k i:Nat)(d:Mx)(hn:n≤64)(hk:k<n)(hi:i<n)(hd:∀j,j≤n→∀a b,a<n→b<n→dj k i d j a b≤1099511627776):ba.run (lR Fs) ((n:Int),(k:Int),(i:Int),0,uk n d,())=Fs ((n:Int),(k:Int),IntKind.i64.wrap ((i:Int)+1),uk n (dj k i d n),()):=by
 refine bf (fun j=>((n:Int),(k:Int),(i:Int),(j:Int),uk n (dj k i d j),())) n (fun j hj rec=>?_) (fun rec=>?_) (by unfold rounds;omega) rfl
 ·unfold lR;dsimp only;have hg:decide ((j:Int)<(n:Int))=true:=by simp;omega
  have ii:al (i:Int) (uk n (dj k i d j)).length:=Kk (by rw[DJ];omega);have ik:al (k:Int) (uk n (dj k i d j)).length:=Kk (by rw[DJ];omega);have ji:al (j:Int) (Hz n (dj k i d j i)).length:=Kk (by rw[AD];omega);have ki:al (k:Int) (Hz n (dj k i d j i)).length:=Kk (by rw[AD];omega);have jk:al (j:Int) (Hz n (dj k i d j k)).length:=Kk (by rw[AD];omega);have b1:=hd j (by omega) i k hi hk;have b2:=hd j (by omega) k j hk hj;have hs:(((dj k i d j i k:Nat):Int)+((dj k i d j k j:Nat):Int))=((dj k i d j i k+dj k i d j k j:Nat):Int):=by omega
  simp only[hg,BY,IN ii,IN ik,asc,AE _ hi,AE _ hk,U,asR,IN ji,IN ki,IN jk,DK _ hj,DK _ hk,cI,M8,anv,anw,hs,ahB _ _ (show dj k i d j i k+dj k i d j k j≤4398046511104 by omega),SV _ _ hi hj,ab (show j<9223372036854775807 by omega)];rfl
 simp[lR,IT]
theorem aj3(Xx:Int×Int×List PV×Unit→Option PV)(n k:Nat)(d:Mx)(hn:n≤64)(hk:k<n)(hd:∀i,i<n→∀j,j≤n→∀a b,a<n→b<n→dj k i (di n k d i) j a b≤1099511627776):ba.run (lS ba Xx) ((n:Int),(k:Int),0,uk n d,())=Xx ((n:Int),IntKind.i64.wrap ((k:Int)+1),uk n (di n k d n),()):=by
 refine bf (fun i=>((n:Int),(k:Int),(i:Int),uk n (di n k d i),())) n (fun i hi rec=>?_) (fun rec=>?_) (by unfold rounds;omega) rfl
 ·unfold lS;dsimp only;have hg:decide ((i:Int)<(n:Int))=true:=by simp;omega
  rw[IN hg,aj2 rec n k i _ hn hk hi (hd i hi),ab (by omega)];rfl
 simp[lS,IT]
theorem aj4(n:Nat)(d:Mx)(hn:n≤64)(hd:∀k,k<n→∀i,i<n→∀j,j≤n→∀a b,a<n→b<n→dj k i (di n k (dk n d k) i) j a b≤1099511627776):ba.run (lT ba) ((n:Int),0,uk n d,())=some (.rs 1 ((uk n (dk n d n)).map PV.strip)):=by
 refine bf (fun k=>((n:Int),(k:Int),uk n (dk n d k),())) n (fun k hk rec=>?_) (fun rec=>?_) (by unfold rounds;omega) rfl
 ·unfold lT;dsimp only;have hg:decide ((k:Int)<(n:Int))=true:=by simp;omega
  rw[IN hg,aj3 rec n k _ hn hk (hd k hk),ab (by omega)];rfl
 simp[lT,IT]
abbrev HA:Nat:=1099511627776
theorem abe(n:Nat):List.replicate n (PV.uS 1 (List.replicate n (PV.int .i64 1099511627776)))=uk n (Xw HA):=by
 unfold uk Hz Xw;apply asw;intro i;by_cases hi:i<n
 ·have:(List.range n).map (fun j=>PV.int .i64 ((HA:Nat):Int))=List.replicate n (PV.int .i64 1099511627776):=by apply asw;grind
  simp_all
 simp_all
theorem abf(n:Nat)(d:Mx):(uk n d).map PV.strip=fH n fun i j=>((d i j:Nat):Int):=by unfold uk fH Hz B5;rw[atU];rfl
theorem aeh(a b:Nat):(if(b:Int)<(a:Int)then(b:Int)else(a:Int))=((min a b:Nat):Int):=by omega
theorem Qm(fr:Bool)(l:List Fp)(p:Fp):counted fr (l++[p])=if(fr&& !p.free)=true then counted fr l else counted fr l++[p.ed]:=by unfold counted;grind
theorem HB(l:List Fp)(n:Nat)(hn:n≤64)(hl:l.length≤4096)(h:∀p∈l,p.a<n∧p.b<n)(fr:Bool):jX [.rs 4 (l.map Fp.pv),.int .i64 n,.bool fr]=some (.rs 1 (fH n fun i j=>((dk n (start HA (counted fr l)) n i j:Nat):Int))):=by
 have e0:ao 4 (.rs 4 (l.map Fp.pv))=some (l.map Fp.pv):=by rfl
 have hE:∀y∈counted fr l,y.f<n∧y.t<n:=fun y hy=>by obtain⟨p,hp,rfl⟩:=DH hy;exact h p hp
 simp only[jX,xm,e0,U,M8,asBool];refine bf (fun i=>(l.map Fp.pv,(n:Int),fr,(i:Int),List.replicate i (PV.uS 1 (List.replicate n (PV.int .i64 1099511627776))),())) n (fun i hi rec=>?_) (fun rec=>?_) (by unfold rounds;omega) rfl
 ·unfold qU;dsimp only;have hg:decide ((i:Int)<(n:Int))=true:=by simp;omega
  rw[IN hg];refine bf (fun j=>(l.map Fp.pv,(n:Int),fr,(i:Int),(j:Int),List.replicate i (PV.uS 1 (List.replicate n (PV.int .i64 1099511627776))),List.replicate j (PV.int .i64 1099511627776),())) n (fun j hj jT=>?_) (fun jT=>?_) (by unfold rounds;omega) rfl
  ·unfold qV;dsimp only;have hg:decide ((j:Int)<(n:Int))=true:=by simp;omega
   have Nj:List.replicate j (PV.int .i64 1099511627776)++[PV.int .i64 1099511627776]=List.replicate (j+1) (PV.int .i64 1099511627776):=(avg ..).symm;rw[IN hg];simp only[Nj,as1];rw[IN (by unfold ah;omega),ab (by omega)]
  ·unfold qV;dsimp only;have Nj:List.replicate i (PV.uS 1 (List.replicate n (PV.int .i64 1099511627776)))++[PV.uS 1 (List.replicate n (PV.int .i64 1099511627776))]=List.replicate (i+1) (PV.uS 1 (List.replicate n (PV.int .i64 1099511627776))):=(avg ..).symm;rw[IT (by simp)];simp only[Nj,as1];rw[IN (by unfold ah;omega),ab (by omega)]
 ·unfold qU;dsimp only;rw[IT (by simp),abe];refine bf (fun k=>(l.map Fp.pv,(n:Int),fr,(k:Int),uk n (start HA (counted fr (l.take k))),())) l.length (fun k hk jT=>?_) (fun jT=>?_) (by unfold rounds;omega) rfl
  ·unfold qW;dsimp only;have hg:decide ((k:Int)<((l.map Fp.pv).length:Int))=true:=by simp;omega
   obtain⟨p,hp⟩:∃p,l[k]?=some p:=⟨_,cN hk⟩;have Kb:(l.map Fp.pv)[k]?=some p.pv:=by simp_all
   have htk:l.take (k+1)=l.take k++[p]:=by rw[auO,hp];rfl
   obtain⟨pa,pb⟩:=h p (asb hp);have hr:(bif p.free then some true else some !fr)=some (!(fr&& !p.free)):=by grind
   rw[IN hg,ag,Kb,U,htk,Qm];simp only[fp3,asBool,U,hr];cases hb:(fr&& !p.free)with
   |true=>simp only[aiI,cQ,IS,BY,ab (show k<9223372036854775807 by omega)]
   |false=>
    obtain⟨d,hd⟩:∃d,d=start HA (counted fr (l.take k)):=⟨_,rfl⟩;have ia:al (p.a:Int) (uk n d).length:=Kk (by rw[DJ];omega);have ib:al (p.b:Int) (Hz n (d p.a)).length:=Kk (by rw[AD];omega);have uJ:uk n (start HA (counted fr (l.take k)++[p.ed]))=uk n (Ql d p.a p.b (min (d p.a p.b) p.c)):=by rw[My,←hd];rfl
    simp only[asr,BY,cQ,IS,uJ,←hd,fp0,fp1,fp2,M8,U,IN ia,asc,AE _ pa,asR,IN ib,DK _ pb,cI,anv,anw,aeh,SV _ _ pa pb,ab (show k<9223372036854775807 by omega)]
  ·unfold qW;dsimp only;rw[IT (by simp),asJ,←abf];have anx:=Mz (n:=n) (inf:=HA) (counted fr l);exact aj4 n _ hn fun k hk i hi j hj a b ha hb=>by have ih:=anx.rounds k (by omega);have:=(Mid.rows (k:=k) ⟨ih.fw,ih.low,fun a b ha hb hd=>by omega⟩ hk i (by omega)).row hi hk j hj;exact this.fw.top a b ha hb
def fpI(i k:Nat)(s:Int)(b:Bool):PV:=.agg [.int .i64 i,.int .i64 k,.int .i64 s,.bool b]
def J0(w f:Int)(i k:Nat):List PV:=if i=k∨w>14400 then[]else fpI i k w (f==w)::(if f>w∧f≤14400 then[fpI i k f true]else[])
def DL(n:Nat)(it:Nat→Nat→List PV)(i:Nat):List PV:=(List.range n).flatMap (it i)
def Gk(n:Nat)(it:Nat→Nat→List PV)(m:Nat):List PV:=(List.range m).flatMap (DL n it)
theorem IL(n:Nat)(it:Nat→Nat→List PV)(i:Nat):DL (n+1) it i=DL n it i++it i n:=by simp[DL,atv,aut]
theorem IM(n:Nat)(it:Nat→Nat→List PV)(m:Nat):Gk n it (m+1)=Gk n it m++DL n it m:=by simp[Gk,atv,aut]
theorem HC{it:Nat→Nat→List PV}(h:∀i k,(it i k).length≤2)(i:Nat):∀k,(DL k it i).length≤2*k
 |0=>by simp[DL]
 |k+1=>by rw[IL,asi];have:=HC h i k;have:=h i k;omega
theorem Ht{it:Nat→Nat→List PV}(h:∀i k,(it i k).length≤2)(n:Nat):∀m,(Gk n it m).length≤2*n*m
 |0=>by simp[Gk]
 |m+1=>by rw[IM,asi,Nat.mul_succ];have:=Ht h n m;have:=HC h m n;omega
theorem P9(w f:Int)(i k:Nat):(J0 w f i k).length≤2:=by grind [J0]
theorem OY{n k:Nat}(D:Nat→Int)(h:k<n):(B5 n D)[k]?=some (.int .i64 (D k)):=by simp[B5,h]
theorem IP{n i:Nat}(D:Nat→Nat→Int)(h:i<n):(fH n D)[i]?=some (.rs 1 (B5 n (D i))):=by simp[fH,h]
theorem aj5(es:List PV):ao 1 (cell (.rs 1 es) 0)=some es:=by rfl
theorem AQ{a:List PV}(h:a.length≤16384):a.length*32≤ah∧0<32:=by unfold ah;omega
theorem VB(Qn:aj6→Option PV)(n i:Nat)(W F:Nat→Nat→Int)(hn:n≤64)(hi:i<n)(acc:List PV)(aqE:acc.length≤8192):ba.run (ow ba Qn) ((n:Int),fH n W,fH n F,(i:Int),0,acc,())=Qn ((n:Int),fH n W,fH n F,IntKind.i64.wrap ((i:Int)+1),acc++DL n (fun i k=>J0 (W i k) (F i k) i k) i,()):=by
 refine bf (fun k=>((n:Int),fH n W,fH n F,(i:Int),(k:Int),acc++DL k (fun i k=>J0 (W i k) (F i k) i k) i,())) n (fun k hk rec=>?_) (fun rec=>?_) (by unfold rounds;omega) (by simp[DL])
 ·unfold ow;dsimp only;have hg:decide ((k:Int)<(n:Int))=true:=by simp;omega
  rw[IL];have hlen:=HC (it:=fun i k=>J0 (W i k) (F i k) i k) (fun i k=>P9 _ _ i k) i k;generalize hA:acc++DL k (fun i k=>J0 (W i k) (F i k) i k) i=A;have hAl:A.length≤8192+128:=by grind
  rw[←asy,hA];simp only[hg,BY,ag,IP _ hi,U,aj5,OY _ hk,cI,M8,ab (show k<9223372036854775807 by omega)];generalize W i k=w;generalize F i k=f;by_cases hik:i=k
  ·simp_all[J0,IN,cond_true,U,BY,atc]
  ·have hb:((i:Int)==(k:Int))=false:=by grind
   simp only[hb,cond_false,U];by_cases hw:w>14400
   ·simp_all[J0,IN,asq,BY,atc]
   ·have hr1:(A++[PV.agg [.int .i64 i,.int .i64 k,.int .i64 w,.bool (f==w)]]).length*32≤ah∧0<32:=AQ (by simp;omega);simp only[hw,ass,cQ,IS,IN hr1];by_cases hf:f>w
    ·by_cases hf2:f≤14400
     ·have Uc:(A++[PV.agg [.int .i64 i,.int .i64 k,.int .i64 w,.bool (f==w)]]++[PV.agg [.int .i64 i,.int .i64 k,.int .i64 f,.bool true]]).length*32≤ah∧0<32:=AQ (by simp;omega);have hit:J0 w f i k=[fpI i k w (f==w),fpI i k f true]:=by simp_all[J0,IT,IN]
      simp only[hf,hf2,asq,cond_true,U,BY,IN Uc,hit];rw[asy];rfl
     ·have hit:J0 w f i k=[fpI i k w (f==w)]:=by simp_all[J0,IT]
      simp only[hf,hf2,asq,ass,cond_true,U,cQ,IS,hit];rfl
    ·have hit:J0 w f i k=[fpI i k w (f==w)]:=by unfold J0;grind
     simp only[hf,ass,cond_false,U,cQ,IS,hit];rfl
 simp[ow,IT]
theorem SX(n:Nat)(W F:Nat→Nat→Int)(hn:n≤64):ba.run (oz ba) ((n:Int),fH n W,fH n F,0,[],())=some (.rs 4 (Gk n (fun i k=>J0 (W i k) (F i k) i k) n)):=by
 refine bf (fun i=>((n:Int),fH n W,fH n F,(i:Int),Gk n (fun i k=>J0 (W i k) (F i k) i k) i,())) n (fun i hi rec=>?_) (fun rec=>?_) (by unfold rounds;omega) rfl
 ·unfold oz;dsimp only;have hg:decide ((i:Int)<(n:Int))=true:=by simp;omega
  have hlen:=Ht (it:=fun i k=>J0 (W i k) (F i k) i k) (fun i k=>P9 _ _ i k) n i;have hb:2*n*i≤2*64*64:=aue (by omega) (by omega);rw[IN hg,VB rec n i W F hn hi _ (by omega),IM,ab (by omega)]
 simp[oz,IT]
def Ay(n:Nat)(l:List Fp)(fr:Bool)(i j:Nat):Int:=((dk n (start HA (counted fr l)) n i j:Nat):Int)
theorem VC(l:List Fp)(n:Nat)(hn:n≤64)(hl:l.length≤4096)(h:∀p∈l,p.a<n∧p.b<n):jV [.rs 4 (l.map Fp.pv),.int .i64 n]=some (.rs 4 (Gk n (fun i k=>J0 (Ay n l false i k) (Ay n l true i k) i k) n)):=by
 have e0:ao 4 (.rs 4 (l.map Fp.pv))=some (l.map Fp.pv):=by rfl
 have e1:∀es,ao 1 (.rs 1 es)=some es:=fun es=>by rfl
 simp only[jV,BJ,e0,U,M8,HB l n hn hl h false,HB l n hn hl h true,e1];simp_all[SX,Ay]
def TI(w f:Int)(i k:Nat):List PV:=if i=k then[]else(if 0<w∧w≤14400 then[fpI i k w (f==w)]else[])++(if f≠w∧0<f∧f≤14400 then[fpI i k f true]else[])
theorem nG.pos{w:Nat→Nat→Nat→Prop}(h:∀i j c,w i j c→1≤c){i j L:Nat}(hw:nG w i j L):1≤L:=by
 cases hw with
 |Mu e=>exact h _ _ _ e
 |snoc _ e=>have:=h _ _ _ e;omega
def ahC(M:Nat)(d w:Int):Prop:=(d= -1∧w=(HA:Int))∨(d=w∧1≤w∧w≤M)
theorem anz{M:Nat}(hM:M<HA){d0 d1 w f:Int}(h0:ahC M d0 w)(h1:ahC M d1 f)(h10:d1≠-1→d0≠-1∧d0≤d1)(i k:Nat):TI d0 d1 i k=J0 w f i k:=by
 unfold TI J0;by_cases hik:i=k
 ·simp_all
 ·rw[IT hik];have hM:(M:Int)<1099511627776:=by grind
  have aqF:((HA:Nat):Int)=1099511627776:=rfl;rw[ahC,aqF]at h0 h1;rcases h0 with⟨e0,w0⟩|⟨e0,w1,w2⟩
  ·simp_all
  ·subst e0;rcases h1 with⟨e1,f0⟩|⟨e1,f1,f2⟩
   ·by_cases hw:d0≤14400
    ·have b1:(d1==d0)=false:=by grind
     have b2:(f==d0)=false:=by grind
     grind
    simp_all
   grind
theorem ahD{l:List Fp}{n B:Nat}(hn:n≤64)(hB:B≤1073741824)(h:∀p∈l,p.a<n∧p.b<n∧1≤p.c∧p.c≤B)(fr:Bool){i k:Nat}(hi:i<n)(hk:k<n)(hik:i≠k){d:Int}(hd:VA (counted fr l) (B*n) i k d):ahC (B*n) d (Ay n l fr i k):=by
 have hE:∀y∈counted fr l,y.f<n∧y.t<n∧1≤y.c:=fun y hy=>by obtain⟨p,hp,rfl⟩:=DH hy;obtain⟨a,b,c,_⟩:=h p hp;exact⟨a,b,c⟩
 have hM:B*n<HA:=by have:B*n≤1073741824*64:=aue hB hn;grind
 rcases ahA (inf:=HA) (fun y hy=>⟨(hE y hy).1,(hE y hy).2.1⟩) hM hi hk hik hd with⟨e1,e2⟩|⟨e1,e2⟩
 ·exact .inl ⟨e1,by unfold Ay;omega⟩
 ·refine .inr ⟨e1,?_,by unfold Ay;omega⟩;rcases hd with⟨e,_⟩|⟨L,e,_,hr,_⟩
  ·omega
  ·have:1≤L:=by
    rcases hr with⟨h,_⟩|hw
    ·omega
    ·exact hw.pos fun a b c hc=>(hE _ hc).2.2
   unfold Ay;omega
theorem ahE{l:List Fp}{M i k:Nat}{d0 d1:Int}(h0:VA (counted false l) M i k d0)(h1:VA (counted true l) M i k d1)(cU:d1≠-1):d0≠-1∧d0≤d1:=by
 have sub:∀y,y∈counted true l→y∈counted false l:=fun y hy=>by unfold counted at hy⊢;grind
 rcases h1 with⟨e,_⟩|⟨L1,e1,_,r1,_⟩
 ·omega
 ·have r:=r1.mem sub;rcases h0 with⟨_,h⟩|⟨L0,e0,_,_,m0⟩
  ·exact absurd r (h L1)
  simp_all
theorem Xy(w f:Int)(i k:Nat):(TI w f i k).length≤2:=by grind [TI,List.length_append]
theorem abg(Qn:TY8→Option PV)(n i:Nat)(W F:Nat→Nat→Int)(hn:n≤64)(hi:i<n)(acc:List PV)(aqE:acc.length≤8192):ba.run (jl ba Qn) (fH n W,fH n F,(i:Int),(n:Int),(i:Int),B5 n (W i),(n:Int),0,acc,())=Qn (fH n W,fH n F,(n:Int),IntKind.i64.wrap ((i:Int)+1),acc++DL n (fun i k=>TI (W i k) (F i k) i k) i,()):=by
 refine bf (fun k=>(fH n W,fH n F,(i:Int),(n:Int),(i:Int),B5 n (W i),(n:Int),(k:Int),acc++DL k (fun i k=>TI (W i k) (F i k) i k) i,())) n (fun k hk rec=>?_) (fun rec=>?_) (by unfold rounds;omega) (by simp[DL])
 ·unfold jl;dsimp only;have hg:decide ((k:Int)<(n:Int))=true:=by simp;omega
  rw[IL];have hlen:=HC (it:=fun i k=>TI (W i k) (F i k) i k) (fun i k=>Xy _ _ i k) i k;generalize hA:acc++DL k (fun i k=>TI (W i k) (F i k) i k) i=A;have hAl:A.length≤8192+128:=by grind
  rw[←asy,hA];simp only[hg,BY,ag,OY _ hk,IP _ hi,U,aj5,cI,M8,ab (show k<9223372036854775807 by omega)];generalize W i k=w;generalize F i k=f;by_cases hik:i=k
  ·simp_all[TI,IN,BY,atc]
  ·have hb:((i:Int)==(k:Int))=false:=by grind
   have hand:∀x:Int,(bif decide (x>0)then some (decide (x≤14400))else some false)=some (decide (0<x∧x≤14400)):=fun x=>by grind
   have hr1:(A++[PV.agg [.int .i64 i,.int .i64 k,.int .i64 w,.bool (f==w)]]).length*32≤ah∧0<32:=AQ (by simp;omega);have Uc:(A++[PV.agg [.int .i64 i,.int .i64 k,.int .i64 w,.bool (f==w)]]++[PV.agg [.int .i64 i,.int .i64 k,.int .i64 f,.bool true]]).length*32≤ah∧0<32:=AQ (by simp;omega);have hr3:(A++[PV.agg [.int .i64 i,.int .i64 k,.int .i64 f,.bool true]]).length*32≤ah∧0<32:=AQ (by simp;omega);have cU:(f !=w)=decide (f≠w):=by grind
   have hit:TI w f i k=(if 0<w∧w≤14400 then[fpI i k w (f==w)]else[])++(if f≠w∧0<f∧f≤14400 then[fpI i k f true]else[]):=IT hik;simp only[hb,cQ,IS,hand,U,cU,cT,hit,IN hr1,IN Uc,IN hr3];by_cases h1:0<w∧w≤14400
   ·by_cases h2:f≠w
    ·by_cases h3:0<f∧f≤14400
     ·rw[IN h1,IN h2,IN h3,IN h1,IN ⟨h2,h3⟩,asy];rfl
     ·rw[IN h1,IN h2,IT h3,IN h1,IT (fun h=>h3 h.2)];rfl
    ·rw[IN h1,IT h2,IN h1,IT (fun h=>h2 h.1)];rfl
   ·by_cases h2:f≠w
    ·by_cases h3:0<f∧f≤14400
     ·rw[IT h1,IN h2,IN h3,IT h1,IN ⟨h2,h3⟩];rfl
     grind
    grind
 simp[jl,IT]
theorem VD(n:Nat)(W F:Nat→Nat→Int)(hn:n≤64){es':List PV}(hs:CX 4 (fun c a b=>cD [a,b]) (Gk n (fun i k=>TI (W i k) (F i k) i k) n)=some es'):ba.run (jm ba) (fH n W,fH n F,(n:Int),0,[],())=some (.rs 4 es'):=by
 have hlen:∀i,i≤n→(Gk n (fun i k=>TI (W i k) (F i k) i k) i).length≤8192:=fun i hi=>by have h1:=Ht (it:=fun i k=>TI (W i k) (F i k) i k) (fun i k=>Xy _ _ i k) n i;have hb:2*n*i≤2*64*64:=aue (by omega) (by omega);omega
 refine bf (fun i=>(fH n W,fH n F,(n:Int),(i:Int),Gk n (fun i k=>TI (W i k) (F i k) i k) i,())) n (fun i hi rec=>?_) (fun rec=>?_) (by unfold rounds;omega) rfl
 ·unfold jm;dsimp only;have hg:decide ((i:Int)<(n:Int))=true:=by simp;omega
  have hrl:((B5 n (W i)).length:Int)=(n:Int):=by simp[B5]
  rw[IN hg,ag,IP _ hi,U,aj5,U,hrl,abg rec n i W F hn hi _ (hlen i (by omega)),IM,ab (by omega)]
 ·unfold jm;dsimp only;have h:=hlen n (aso _);rw[IT (by simp),IN (by(first|refine⟨rfl,?_,rfl⟩|refine⟨rfl,?_⟩);unfold ah;omega),hs];rfl
def kI:PV→Int
 |.int _ n=>n
 |_=>0
def c3(x y:Int):Int:=if x<y then-1 else if x>y then 1 else 0
def or3(a b c:Int):Int:=if a≠0 then a else if b≠0 then b else c
def cfp(a b:List PV):Int:=or3 (c3 (kI (a.getD 0 .bad)) (kI (b.getD 0 .bad))) (c3 (kI (a.getD 1 .bad)) (kI (b.getD 1 .bad))) (c3 (kI (a.getD 2 .bad)) (kI (b.getD 2 .bad)))
theorem VE(x y:Int):fI [.int .i64 x,.int .i64 y]=some (.int .i64 (c3 x y)):=by
 have h:∀z:Int,¬(z !=z)=true:=fun z=>by simp
 simp only[fI,uo,M8,U,IT (h x),IT (h y),cT];unfold c3;grind
theorem anA(a b c:Int):vt [.rs 1 [.int .i64 a,.int .i64 b,.int .i64 c]]=some (.int .i64 (or3 a b c)):=by
 have e0:ao 1 (.rs 1 [.int .i64 a,.int .i64 b,.int .i64 c])=some [.int .i64 a,.int .i64 b,.int .i64 c]:=by rfl
 simp only[vt,Gl,e0,U];obtain⟨es,QC⟩:∃es,es=[PV.int .i64 a,.int .i64 b,.int .i64 c]:=⟨_,rfl⟩;have hl:((es.length:Nat):Int)=3:=by rw[QC];rfl
 rw[←QC];have hb:∀(k:Nat)(x:Int),es[k]?=some (.int .i64 x)→k<3→∀rec,fh (0,es,((es.length:Nat):Int),(k:Int),()) rec=if x≠0 then some (.int .i64 x)else rec (0,es,((es.length:Nat):Int),((k+1:Nat):Int),()):=fun k x hx hk rec=>by
  unfold fh;dsimp only;have hg:decide ((k:Int)<((es.length:Nat):Int))=true:=by rw[hl];simp;omega
  rw[IN hg,ag,hx,U,cI,M8,U,ab (by omega)];simp
 have he:∀rec,fh (0,es,((es.length:Nat):Int),((3:Nat):Int),()) rec=some (.int .i64 0):=fun rec=>by unfold fh;simp_all
 have hN:rounds=18446744073709551612+1+1+1+1:=rfl;rw[pL,hN];generalize 18446744073709551612=N;show fh (0,es,((es.length:Nat):Int),((0:Nat):Int),()) _=_;rw[hb 0 a (by rw[QC];rfl) (by omega)];unfold or3;by_cases h1:a≠0
 ·simp_all
 ·rw[IT h1,IT h1];show fh (0,es,((es.length:Nat):Int),((1:Nat):Int),()) _=_;rw[hb 1 b (by rw[QC];rfl) (by omega)];by_cases h2:b≠0
  ·simp_all
  ·rw[IT h2,IT h2];show fh (0,es,((es.length:Nat):Int),((2:Nat):Int),()) _=_;rw[hb 2 c (by rw[QC];rfl) (by omega)];by_cases h3:c≠0
   ·rw[IN h3]
   ·rw[IT h3];show fh (0,es,((es.length:Nat):Int),((3:Nat):Int),()) _=_;simp_all
def fpc(i k:Nat)(s:Int)(b:Bool):List PV:=[.int .i64 i,.int .i64 k,.int .i64 s,.bool b]
theorem aei(i k:Nat)(s:Int)(b:Bool)(i' k':Nat)(s':Int)(b':Bool):cD [EP (fpc i k s b),EP (fpc i' k' s' b')]=some (.int .i64 (cfp (fpc i k s b) (fpc i' k' s' b'))):=by have a:∀(w x y z:PV),asAgg 4 (.agg [w,x,y,z])=some ():=fun _ _ _ _=>rfl;have a0:∀(w x y z:PV),cell (.agg [w,x,y,z]) 0=w:=fun _ _ _ _=>rfl;have a1:∀(w x y z:PV),cell (.agg [w,x,y,z]) 1=x:=fun _ _ _ _=>rfl;have a2:∀(w x y z:PV),cell (.agg [w,x,y,z]) 2=y:=fun _ _ _ _=>rfl;have a3:∀(w x y z:PV),cell (.agg [w,x,y,z]) 3=z:=fun _ _ _ _=>rfl;simp only[cD,oV,EP,fpc,a,a0,a1,a2,a3,M8,asBool,U,VE,anA];rfl
theorem aej(x y:Int):(c3 x y<0↔x<y)∧(c3 x y=0↔x=y):=by grind [c3]
theorem IQ(i k:Nat)(s:Int)(b:Bool)(i' k':Nat)(s':Int)(b':Bool):cfp (fpc i k s b) (fpc i' k' s' b')<0↔i<i'∨(i=i'∧(k<k'∨(k=k'∧s<s'))):=by show or3 (c3 (i:Int) (i':Int)) (c3 (k:Int) (k':Int)) (c3 s s')<0↔_;have h1:=aej (i:Int) (i':Int);grind [aej,or3]
def IsF(e:List PV):Prop:=∃i k s b,e=fpc i k s b
variable{ns:List (List PV)}
theorem VF(h:ns.Pairwise fun a b=>cfp a b<0):∀a∈ns,∀b∈ns,¬cfp a b<0→¬cfp b a<0→a=b:=by
 induction h with
 |nil=>simp
 | @cons x l hx _ ih=>grind
theorem SY(hF:∀e∈ns,IsF e)(h:ns.Pairwise fun a b=>cfp a b<0):mR 4 (fun c a b=>cD [a,b]) ns ns cfp where
 len a ha:=by obtain⟨i,k,s,b,rfl⟩:=hF a ha;rfl
 ab9 a ha p hp:=by obtain⟨i,k,s,b,rfl⟩:=hF a ha;simp only[fpc,asg,atz,avc]at hp;rcases hp with rfl|rfl|rfl|rfl<;>rfl
 perm:=List.Perm.refl _
 reads c _ _ a ha b hb:=by obtain⟨i,k,s,q,rfl⟩:=hF a ha;obtain⟨i',k',s',q',rfl⟩:=hF b hb;exact aei ..
 irrefl a ha:=by obtain⟨i,k,s,q,rfl⟩:=hF a ha;rw[IQ];omega
 trans a ha b hb c hc h1 h2:=by obtain⟨i,k,s,q,rfl⟩:=hF a ha;obtain⟨i',k',s',q',rfl⟩:=hF b hb;obtain⟨i2,k2,s2,q2,rfl⟩:=hF c hc;rw[IQ]at*;omega
 total:=VF h
 sorted:=h.imp_of_mem fun{a b}ha hb Ak=>by obtain⟨i,k,s,q,rfl⟩:=hF a ha;obtain⟨i',k',s',q',rfl⟩:=hF b hb;rw[IQ]at*;omega
def itC(w f:Int)(i k:Nat):List (List PV):=if i=k∨w>14400 then[]else fpc i k w (f==w)::(if f>w∧f≤14400 then[fpc i k f true]else[])
theorem ahF(w f:Int)(i k:Nat):(itC w f i k).map EP=J0 w f i k:=by
 unfold itC J0;split
 ·rfl
 ·split<;>rfl
def Nt(n:Nat)(W F:Nat→Nat→Int):List (List PV):=(List.range n).flatMap fun i=>(List.range n).flatMap fun k=>itC (W i k) (F i k) i k
theorem IG(n:Nat)(W F:Nat→Nat→Int):fp (Nt n W F)=Gk n (fun i k=>J0 (W i k) (F i k) i k) n:=by unfold fp Nt Gk DL;rw[List.map_flatMap];congr 1;funext i;rw[List.map_flatMap];congr 1;funext k;exact ahF ..
theorem HD{w f:Int}{i k:Nat}{e:List PV}(h:e∈itC w f i k):∃s b,e=fpc i k s b:=by unfold itC at h;grind
theorem SB(n:Nat)(W F:Nat→Nat→Int):∀e∈Nt n W F,IsF e:=fun e h=>by obtain⟨i,_,h⟩:=aun.1 h;obtain⟨k,_,h⟩:=aun.1 h;obtain⟨s,b,rfl⟩:=HD h;exact⟨i,k,s,b,rfl⟩
theorem SZ(n:Nat)(W F:Nat→Nat→Int):(Nt n W F).Pairwise fun a b=>cfp a b<0:=by
 unfold Nt;rw[au4];refine⟨fun i _=>?_,List.pairwise_lt_range.imp fun{i i'}hii x hx y hy=>?_⟩
 ·rw[au4];refine⟨fun k _=>?_,List.pairwise_lt_range.imp fun{k k'}B1 x hx y hy=>?_⟩
  ·unfold itC;split
   ·simp
   grind [IQ]
  ·obtain⟨s,b,rfl⟩:=HD hx;obtain⟨s',b',rfl⟩:=HD hy;rw[IQ];omega
 ·obtain⟨k,_,hx⟩:=aun.1 hx;obtain⟨k',_,hy⟩:=aun.1 hy;obtain⟨s,b,rfl⟩:=HD hx;obtain⟨s',b',rfl⟩:=HD hy;rw[IQ];omega
theorem Vo(l:List Fp)(n:Nat)(hn:n≤64)(hl:l.length≤4096)(h:∀p∈l,p.a<n∧p.b<n∧1≤p.c∧p.c≤14400):gH [.rs 4 (l.map Fp.pv),.int .i64 n]=some (.rs 4 (fp (Nt n (Ay n l false) (Ay n l true))))∧jV [.rs 4 (l.map Fp.pv),.int .i64 n]=some (.rs 4 (fp (Nt n (Ay n l false) (Ay n l true)))):=by
 have hr:=VC l n hn hl fun p hp=>⟨(h p hp).1,(h p hp).2.1⟩;rw[←IG]at hr;refine⟨?_,hr⟩;have hB:(14400:Nat)≤1073741824:=by omega
 obtain⟨D0,d0,e0⟩:=Xv l n 14400 hn hl hB (fun p hp=>⟨(h p hp).1,(h p hp).2.1,(h p hp).2.2.2⟩) false;obtain⟨D1,d1,e1⟩:=Xv l n 14400 hn hl hB (fun p hp=>⟨(h p hp).1,(h p hp).2.1,(h p hp).2.2.2⟩) true;have hM:14400*n<HA:=by grind
 have Ur:Gk n (fun i k=>TI (D0 i k) (D1 i k) i k) n=fp (Nt n (Ay n l false) (Ay n l true)):=by
  rw[IG];unfold Gk DL;rw[auk,auk];congr 1;apply asD;intro i hi;rw[auk,auk];congr 1;apply asD;intro k hk;have hi:=ata.1 hi;have hk:=ata.1 hk;dsimp only;by_cases hik:i=k
  ·simp_all[TI,IN,J0,Ay]
  grind [anz,ahD,ahE]
 have a0:ao 4 (.rs 4 (l.map Fp.pv))=some (l.map Fp.pv):=by rfl
 have a1:∀es,ao 1 (.rs 1 es)=some es:=fun es=>by rfl
 have hlen:((fH n D0).length:Int)=(n:Int):=by simp[fH]
 simp only[gH,so,a0,M8,U,e0,e1,a1,hlen];exact VD n D0 D1 hn (by rw[Ur];exact aai (SY (SB _ _ _) (SZ _ _ _)))
end Go.Ab.Nw
