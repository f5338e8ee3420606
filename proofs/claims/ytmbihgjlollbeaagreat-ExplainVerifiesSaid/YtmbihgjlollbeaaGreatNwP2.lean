import Derived.Test.YtmbihgjlollbeaaGreatNwP1
namespace Go.Ab.Nw
set_option maxRecDepth 100000
set_option linter.all false
def VI(E:List Ed)(M:Nat)(s v:Nat)(d:Int):Prop:=(d= -1∧∀L,¬Qm E s v L)∨∃L:Nat,d=L∧L≤M∧Qm E s v L∧∀L',Qm E s v L'→L≤L'
theorem VI.unique{E:List Ed}{M M' s v:Nat}{d d':Int}(h:VI E M s v d)(h':VI E M' s v d'):d=d':=by
 rcases h with⟨e,h⟩|⟨L,e,_,h1,h2⟩
 ·rcases h' with⟨e',_⟩|⟨L',_,_,h1',_⟩
  ·omega
  simp_all
 ·rcases h' with⟨_,h'⟩|⟨L',e',_,h1',h2'⟩
  ·exact absurd h1 (h' L)
  grind
theorem Qm.mem{E E':List Ed}(h:∀y,y∈E→y∈E'){s v L:Nat}(hr:Qm E s v L):Qm E' s v L:=by
 rcases hr with hr|hr
 ·exact .inl hr
 ·exact .inr (hr.mono fun i j c hc=>h _ hc)
theorem VI.mem{E E':List Ed}(h:∀y,y∈E↔y∈E'){M s v:Nat}{d:Int}(hd:VI E M s v d):VI E' M s v d:=by
 rcases hd with⟨e,h1⟩|⟨L,e,hM,h1,h2⟩
 ·exact .inl ⟨e,fun L hL=>h1 L (hL.mem fun y hy=>(h y).2 hy)⟩
 ·exact .inr ⟨L,e,hM,h1.mem fun y hy=>(h y).1 hy,fun L' hL=>h2 L' (hL.mem fun y hy=>(h y).2 hy)⟩
def B9(n:Nat)(D:Nat→Int):List PV:=(List.range n).map fun v=>.int .i64 (D v)
def fJ(n:Nat)(D:Nat→Nat→Int):List PV:=(List.range n).map fun s=>.rs 1 (B9 n (D s))
variable{D:Nat→Nat→Int}
theorem S3{n:Nat}{D':Nat→Nat→Int}(h:∀s v,s<n→v<n→D s v=D' s v):fJ n D=fJ n D':=by unfold fJ;apply asJ;simp_all[B9,congr,asJ]
theorem aer(E:List Ed)(n B:Nat)(hn:n≤64)(hE:E.length≤4096)(hB:B≤1073741824)(h:∀y∈E,y.f<n∧y.t<n∧y.c≤B):∃D:Nat→Nat→Int,(∀s v,s<n→v<n→VI E (B*n) s v (D s v))∧jX [.int .i64 n,.rs 3 (E.map Ed.pv)]=some (.aG [.rs 1 (fJ n D),.int .i64 0]):=by
 have h':∀y∈E,y.f<n∧y.t<n∧y.c≤1073741824:=fun y hy=>⟨(h y hy).1,(h y hy).2.1,by grind⟩;have hG:=aeq E n hn hE h';have each:∀s,∃o:sq,s<n→(∃pu,DI E n s B o pu [])∧iA [.int .i64 n,.rm 3 ((S2 (Gn E)).map fun x=>x.1) ((S2 (Gn E)).map fun x=>x.2.rS),.int .i64 s]=some (.rs 3 (eE n o)):=fun s=>by
  by_cases hs:s<n
  ·grind [abj]
  ·exact⟨fun _=>none,fun h=>absurd h hs⟩
 obtain⟨o,ho⟩:=Classical.axiomOfChoice each;refine⟨fun s v=>Qo (o s v),fun s v hs hv=>?_,?_⟩
 ·obtain⟨⟨pu,hI⟩,_⟩:=ho s hs;have:=hI.done h hv;cases hl:o s v with
  |none=>rw[hl]at this;exact .inl ⟨by dsimp only;rw[hl];rfl,this⟩
  |some p=>obtain⟨L,e⟩:=p;rw[hl]at this;exact .inr ⟨L,by dsimp only;rw[hl];rfl,this.1,this.2.1,this.2.2⟩
 ·have e0:ao 3 (.rs 3 (E.map Ed.pv))=some (E.map Ed.pv):=by rfl
  have ee:(0:Int)≤(n:Int)∧(n:Int)≤(n:Int)∧n*24≤ah∧0<24∧0<1:=by grind [ah]
  have hz:((0:Int) !=0)=false:=rfl;simp only[jX,BM,Nc,e0,U,aeo E n hn hE h',hz,cQ,IT,Qq E hE,da,BY,are,IN ee,as7];refine bg (fun k=>((n:Int),PV.rm 3 ((S2 (Gn E)).map fun x=>x.1) ((S2 (Gn E)).map fun x=>x.2.rS),(n:Int),(k:Int),yP n k (fun s=>.rs 1 (B9 n fun v=>Qo (o s v))) (.rs 0 []),())) n (fun k hk rec=>?_) (fun rec=>?_) (by unfold rounds;omega) ?_
  ·unfold ov;dsimp only;have hg:decide ((k:Int)<(n:Int))=true:=by simp;omega
   have e3:ao 3 (.rs 3 (eE n (o k)))=some (eE n (o k)):=by rfl
   have e1:ao 1 (.rs 1 ((List.range n).map fun v=>PV.int .i64 (Qo (o k v))))=some ((List.range n).map fun v=>PV.int .i64 (Qo (o k v))):=by rfl
   rw[IN hg,(ho k hk).2,U,e3,U,VH n hn,U,e1,U,IN (Ku (by rw[SV];omega)),are,SX hk,U,ab (by omega)];simp_all[SY,B9,Qo]
  ·unfold ov;dsimp only;rw[IS (by simp),SZ];rfl
  ·rw[OY];rfl
theorem aes(E E':List Ed)(n B:Nat)(hn:n≤64)(hE:E'.length≤4096)(hB:B≤1073741824)(h:∀y∈E,y.f<n∧y.t<n∧y.c≤B)(he:∀y,y∈E↔y∈E')(hD:∀s v,s<n→v<n→VI E (B*n) s v (D s v)):jX [.int .i64 n,.rs 3 (E'.map Ed.pv)]=some (.aG [.rs 1 (fJ n D),.int .i64 0]):=by obtain⟨D',d1,d2⟩:=aer E' n B hn hE hB fun y hy=>h y ((he y).2 hy);rw[d2,S3 fun s v hs hv=>((hD s v hs hv).mem he).unique (d1 s v hs hv)]
structure Fp where
 a:Nat
 b:Nat
 c:Nat
 free:Bool
 deriving DecidableEq
def Fp.pv(p:Fp):PV:=.agg [.int .i64 p.a,.int .i64 p.b,.int .i64 p.c,.bool p.free]
theorem fp0(p:Fp):cell p.pv 0=.int .i64 p.a:=rfl
theorem fp1(p:Fp):cell p.pv 1=.int .i64 p.b:=rfl
theorem fp2(p:Fp):cell p.pv 2=.int .i64 p.c:=rfl
theorem fp3(p:Fp):cell p.pv 3=.bool p.free:=rfl
def Fp.ed(p:Fp):Ed:=⟨p.a,p.b,p.c⟩
def Gp(z:Ed):List Ed→List Ed
 |[]=>[z]
 |e::r=>if z.f=e.f∧z.t=e.t then z::r else e::Gp z r
def HD(a b:Nat):List Ed→Option Nat
 |[]=>none
 |e::r=>if a=e.f∧b=e.t then some e.c else HD a b r
theorem MC(a b:Nat)(z:Ed):∀m,HD a b (Gp z m)=if a=z.f∧b=z.t then some z.c else HD a b m
 |[]=>rfl
 |e::r=>by
  simp only[Gp];by_cases h:z.f=e.f∧z.t=e.t
  ·simp_all[IN,HD,IS]
  ·rw[IS h];simp only[HD];by_cases h2:a=e.f∧b=e.t
   ·grind
   simp_all[IS,MC]
theorem S4(z e:Ed):∀m,e∈Gp z m→e=z∨e∈m
 |[],h=>by simp[Gp]at h;exact .inl h
 |x::r,h=>by
  simp only[Gp]at h;split at h
  ·rcases asm.1 h with h|h
   ·exact .inl h
   ·exact .inr (by simp[h])
  ·rcases asm.1 h with h|h
   ·exact .inr (by simp[h])
   ·rcases S4 z e r h with h|h
    ·exact .inl h
    ·exact .inr (by simp[h])
theorem S5{a b x:Nat}:∀{m:List Ed},HD a b m=some x→∃e∈m,e.f=a∧e.t=b∧e.c=x
 |[],h=>by cases h
 |e::r,h=>by
  simp only[HD]at h;split at h
  ·simp_all
  simp_all[S5]
theorem S6(z:Ed):∀m,(Gp z m).length≤m.length+1
 |[]=>by simp[Gp]
 |e::r=>by
  simp only[Gp];split
  ·simp
  ·have:=S6 z r;simp;omega
def XC(fr:Bool)(m:List Ed)(p:Fp):List Ed:=if(fr&& !p.free)=true then m else match HD p.a p.b m with
 |none=>Gp p.ed m
 |some x=>if p.c<x then Gp p.ed m else m
def pD(fr:Bool)(l:List Fp):List Ed:=l.foldl (XC fr) []
theorem O2(fr:Bool)(l:List Fp)(p:Fp):pD fr (l++[p])=XC fr (pD fr l) p:=by simp[pD]
def counted(fr:Bool)(l:List Fp):List Ed:=(l.filter fun p=> !(fr&& !p.free)).map Fp.ed
theorem XD(fr:Bool)(l:List Fp):(∀e∈pD fr l,e∈counted fr l)∧(∀e∈counted fr l,∃x,HD e.f e.t (pD fr l)=some x∧x≤e.c)∧(pD fr l).length≤l.length:=by
 rw[←auw l];induction l.reverse with
 |nil=>simp[pD,counted,ast]
 |cons p l ih=>
  rw[List.reverse_cons,O2];obtain⟨i1,i2,i3⟩:=ih;have hc:counted fr (l.reverse++[p])=counted fr l.reverse++(if(fr&& !p.free)=true then[]else[p.ed]):=by unfold counted;grind
  rw[hc];unfold XC;by_cases h:(fr&& !p.free)=true
  ·grind
  ·rw[IS h,IS h];have put:(∀e∈Gp p.ed (pD fr l.reverse),e∈counted fr l.reverse++[p.ed]):=fun e he=>by
    rcases S4 _ _ _ he with rfl|he
    ·simp
    simp_all
   have len:(Gp p.ed (pD fr l.reverse)).length≤(l.reverse++[p]).length:=by grind [S6,pD]
   cases hb:HD p.a p.b (pD fr l.reverse)with
   |none=>
    refine⟨put,fun e he=>?_,len⟩;rw[MC];by_cases hk:e.f=p.ed.f∧e.t=p.ed.t
    ·rw[IN hk];rcases asF.1 he with he|he
     ·obtain⟨x,h1,_⟩:=i2 e he;rw[hk.1,hk.2]at h1;rw[show p.ed.f=p.a from rfl,show p.ed.t=p.b from rfl,hb]at h1;cases h1
     simp_all
    grind
   |some x=>
    dsimp only;by_cases hx:p.c<x
    ·rw[IN hx];refine⟨put,fun e he=>?_,len⟩;rw[MC];by_cases hk:e.f=p.ed.f∧e.t=p.ed.t
     ·rw[IN hk];rcases asF.1 he with he|he
      ·obtain⟨y,h1,h2⟩:=i2 e he;rw[hk.1,hk.2,show p.ed.f=p.a from rfl,show p.ed.t=p.b from rfl,hb]at h1;cases h1;exact⟨_,rfl,by show p.c≤e.c;omega⟩
      simp_all
     grind
    ·rw[IS hx];refine⟨fun e he=>List.mem_append_left _ (i1 e he),fun e he=>?_,by simp at i3⊢;omega⟩;rcases asF.1 he with he|he
     ·exact i2 e he
     ·simp at he;subst he;exact⟨x,hb,by show x≤p.c;omega⟩
def qW(e:Ed):PV×PV:=(.agg [.int .i64 e.f,.int .i64 e.t,.bool false],.int .i64 e.c)
theorem anE(a b c d:Nat):cz (PV.agg [.int .i64 a,.int .i64 b,.bool false]).cells (PV.agg [.int .i64 c,.int .i64 d,.bool false]).cells=decide (a=c∧b=d):=by
 have h:∀x y:Nat,((x:Int)==(y:Int))=decide (x=y):=fun x y=>by grind
 simp only[PV.cells,cz,peq,atc,h,beq_self_eq_true,Bool.decide_and]
theorem aiM(a b:Nat):∀m:List Ed,cB (.agg [.int .i64 a,.int .i64 b,.bool false]) (.int .i64 0) (m.map qW)=.int .i64 (((HD a b m).getD 0:Nat):Int)∧yj (.agg [.int .i64 a,.int .i64 b,.bool false]) (m.map qW)=(HD a b m).isSome
 |[]=>⟨rfl,rfl⟩
 |e::r=>by obtain⟨h1,h2⟩:=aiM a b r;simp only[ass,qW,cB,yj,anE,HD];grind
theorem aj7(z:Ed):∀m:List Ed,dJ (.agg [.int .i64 z.f,.int .i64 z.t,.bool false]) (.int .i64 z.c) (m.map qW)=(Gp z m).map qW
 |[]=>rfl
 |e::r=>by
  have ih:=aj7 z r;simp only[ass,dJ,Gp];rw[show(qW e)=(PV.agg [.int .i64 e.f,.int .i64 e.t,.bool false],PV.int .i64 e.c)from rfl];simp only[anE];by_cases h:z.f=e.f∧z.t=e.t
  ·simp[h,qW]
  ·simp only[h,asx,cQ,IT,ass,ih];rfl
theorem Lc{R:Type}{n:Nat}{g:Nat→Option R}{r:R}(hn:0<n)(h:∀i,i<n→g i=some r):yA n g=some r:=by unfold yA;have hh:∃r,∀i,i<n→g i=some r:=⟨r,h⟩;rw[avz hh];grind
theorem abk{n:Nat}(hn:n≤64)(r:PV)(Hh:List Ed→Prop)(tV:∀acc,Hh acc→∃D,jX [.int .i64 n,.rs 3 (acc.map Ed.pv)]=some (.aG [.rs 1 D,.int .i64 0])∧r=.rs 1 D):∀(rem acc:List Ed)(N:Nat),rem.length<N→acc.length+rem.length≤4096→(∀l,(∀y,y∈l↔y∈acc∨y∈rem)→l.length=acc.length+rem.length→Hh l)→cE (eO bd) N ((n:Int),acc.map Ed.pv,rem.map qW,())=some r:=by
 intro rem;generalize hk:rem.length=k;induction k generalizing rem with
 |zero=>intro acc N hN hl hg;have:rem=[]:=aso hk;subst this;obtain⟨N,rfl⟩:∃m,N=m+1:=⟨N-1,by omega⟩;simp only[cE];unfold eO;dsimp only;rw[IN (show(List.map qW []).isEmpty=true from rfl)];obtain⟨D,h1,h2⟩:=tV acc (hg acc (fun y=>by simp) (by simp));have e2:cn 2 (.aG [.rs 1 D,.int .i64 0])=some [.rs 1 D,.int .i64 0]:=rfl;simp_all[ao,U,O6,T1,Nc]
 |succ k ih=>
  intro acc N hN hl hg;obtain⟨N,rfl⟩:∃m,N=m+1:=⟨N-1,by omega⟩;simp only[cE];generalize iW:cE (eO bd) N=rec;unfold eO;dsimp only
  have cV:¬(rem.map qW).isEmpty=true:=by cases rem with
   |nil=>simp at hk
   |cons _ _=>simp
  rw[IS cV];refine Lc (by simp;omega) fun i hi=>?_;have uP:i<rem.length:=by simpa using hi
  obtain⟨e,he⟩:∃e,rem[i]?=some e:=⟨_,cN uP⟩;have Kk:(rem.map qW)[i]?=some (qW e):=by simp_all
  have ee:(acc.map Ed.pv++[PV.agg [.int .i64 e.f,.int .i64 e.t,.int .i64 e.c]]).length*24≤ah∧0<24:=by grind [List.length_append,List.length_map,List.length_cons,List.length_nil,ah]
  have Np:acc.map Ed.pv++[PV.agg [.int .i64 e.f,.int .i64 e.t,.int .i64 e.c]]=(acc++[e]).map Ed.pv:=by simp[Ed.pv]
  have aj8:(rem.map qW).eraseIdx i=(rem.eraseIdx i).map qW:=by apply asB;grind
  have hle:(rem.eraseIdx i).length=k:=by grind
  rw[Kk,U];rw[Np]at ee;simp only[qW,ag3,anw,aj6,Nc,U,Np,IN ee,aj8];rw[←iW];refine ih (rem.eraseIdx i) hle (acc++[e]) N (by omega) (by simp;omega) fun l WI TL=>hg l (fun y=>?_) (by rw[TL];simp;omega);rw[WI];have bB:y∈rem↔y=e∨y∈rem.eraseIdx i:=by
   rw[List.mem_eraseIdx_iff_getElem?];constructor
   ·grind [List.getElem?_of_mem,Option.some.inj]
   grind
  grind
theorem Qm.leq{E E':List Ed}(h:∀e∈E,∃e'∈E',e'.f=e.f∧e'.t=e.t∧e'.c≤e.c){s v L:Nat}(hr:Qm E s v L):∃L',L'≤L∧Qm E' s v L':=by
 rcases hr with⟨h1,h2⟩|hr
 ·exact⟨L,ast _,.inl ⟨h1,h2⟩⟩
 ·obtain⟨L',l1,l2⟩:=hr.leq (w':=ew E') fun i j c hc=>by
   obtain⟨e',m,e1,e2,e3⟩:=h _ hc;refine⟨e'.c,e3,?_⟩;unfold ew;have:(⟨i,j,e'.c⟩:Ed)=e':=by have e1:e'.f=i:=e1;have e2:e'.t=j:=e2;rw[←e1,←e2]
   rw[this];omega
  exact⟨L',l1,.inr l2⟩
theorem aet{fr:Bool}{l:List Fp}{M s v:Nat}{d:Int}(h:VI (pD fr l) M s v d):VI (counted fr l) M s v d:=by
 obtain⟨b1,b2,_⟩:=XD fr l;have low:∀{L},Qm (counted fr l) s v L→∃L',L'≤L∧Qm (pD fr l) s v L':=fun hr=>hr.leq fun e he=>by grind [S5]
 rcases h with⟨e,h1⟩|⟨L,e,hM,h1,h2⟩
 ·refine .inl ⟨e,fun L hL=>?_⟩;simp_all
 ·refine .inr ⟨L,e,hM,h1.mem b1,fun L' hL=>?_⟩;grind
theorem DM{fr:Bool}{l:List Fp}{e:Ed}(h:e∈counted fr l):∃p∈l,p.ed=e:=by unfold counted at h;grind
theorem XE(l:List Fp)(n B:Nat)(hn:n≤64)(hl:l.length≤4096)(hB:B≤1073741824)(h:∀p∈l,p.a<n∧p.b<n∧p.c≤B)(fr:Bool):∃D:Nat→Nat→Int,(∀s v,s<n→v<n→VI (counted fr l) (B*n) s v (D s v))∧fy [.rs 4 (l.map Fp.pv),.int .i64 n,.bool fr]=some (.rs 1 (fJ n D)):=by
 obtain⟨b1,b2,b3⟩:=XD fr l;have hbe:∀y∈pD fr l,y.f<n∧y.t<n∧y.c≤B:=fun y hy=>by obtain⟨p,hp,rfl⟩:=DM (b1 y hy);exact h p hp
 obtain⟨D,d1,d2⟩:=aer (pD fr l) n B hn (by omega) hB hbe;refine⟨D,fun s v hs hv=>aet (d1 s v hs hv),?_⟩;have e0:ao 4 (.rs 4 (l.map Fp.pv))=some (l.map Fp.pv):=by rfl
 simp only[fy,oV,e0,U,Nc,asBool];refine bg (fun k=>((n:Int),fr,l.map Fp.pv,((l.map Fp.pv).length:Int),(k:Int),(pD fr (l.take k)).map qW,())) l.length (fun k hk rec=>?_) (fun rec=>?_) (by unfold rounds;omega) (by rfl)
 ·unfold lG;dsimp only;have hg:decide ((k:Int)<((l.map Fp.pv).length:Int))=true:=by simp;omega
  obtain⟨p,hp⟩:∃p,l[k]?=some p:=⟨_,cN hk⟩;have Kk:(l.map Fp.pv)[k]?=some p.pv:=by simp_all
  have htk:l.take (k+1)=l.take k++[p]:=by rw[auZ,hp];rfl
  have hr7:(bif fr then(asBool (cell p.pv 3)).bind fun b6=>some !b6 else some false)=some (fr&& !p.free):=by rw[fp3];cases fr<;>rfl
  obtain⟨g1,g2⟩:=aiM p.a p.b (pD fr (l.take k));rw[IN hg,ag,Kk,U,hr7,U,ab (by omega),htk,O2];unfold XC;by_cases hf:(fr&& !p.free)=true
  ·simp_all
  ·rw[IS hf,IS hf];simp only[fp0,fp1,fp2,Nc,U,g1,g2];cases hb:HD p.a p.b (pD fr (l.take k))with
   |none=>simp only[auP,asw,cond_true,U,BY];rw[show(p.c:Int)=((p.ed.c:Nat):Int)from rfl,show(p.a:Int)=((p.ed.f:Nat):Int)from rfl,show(p.b:Int)=((p.ed.t:Nat):Int)from rfl,aj7]
   |some x=>
    simp only[auc,ahX,cond_false,U,atk];by_cases hx:p.c<x
    ·have hd:decide ((p.c:Int)<(x:Int))=true:=by simp;omega
     simp only[hd,BY,IN hx];rw[show(p.c:Int)=((p.ed.c:Nat):Int)from rfl,show(p.a:Int)=((p.ed.f:Nat):Int)from rfl,show(p.b:Int)=((p.ed.t:Nat):Int)from rfl,aj7]
    grind
 ·unfold lG;dsimp only;have WI:((pD fr (l.take l.length)).map qW).length≤maxLen:=by grind [List.take_length,List.length_map,maxLen,decide]
  have ee:(0:Int)≤0∧0≤((((pD fr (l.take l.length)).map qW).length:Nat):Int)∧((((pD fr (l.take l.length)).map qW).length:Nat):Int).toNat*24≤ah∧0<24∧0<3:=by grind [Int.toNat_natCast,List.take_length,List.length_map,ah]
  rw[IS (by simp),IN WI,IN ee,asP,pM];have hp:=abk hn (.rs 1 (fJ n D)) (fun acc=>(∀y,y∈pD fr l↔y∈acc)∧acc.length≤4096) (fun acc⟨h1,h2⟩=>⟨_,aes (pD fr l) acc n B hn h2 hB hbe h1 d1,rfl⟩) (pD fr l) [] rounds (by unfold rounds;omega) (by simp;omega) (fun l' h1 h2=>⟨fun y=>by rw[h1];simp,by rw[h2];simp;omega⟩);exact hp
abbrev Mx:=Nat→Nat→Nat
def Qr(d:Mx)(i j x:Nat):Mx:=fun a b=>if a=i∧b=j then x else d a b
def dj(k i:Nat)(d:Mx):Nat→Mx
 |0=>d
 |j+1=>Qr (dj k i d j) i j (min (dj k i d j i j) (dj k i d j i k+dj k i d j k j))
def di(n k:Nat)(d:Mx):Nat→Mx
 |0=>d
 |i+1=>dj k i (di n k d i) n
def dk(n:Nat)(d:Mx):Nat→Mx
 |0=>d
 |k+1=>di n k (dk n d k) n
structure Mid(w:Nat→Nat→Nat→Prop)(inf n k i j:Nat)(d:Mx):Prop where
 fw:Fw w inf n d
 py:∀a b,a<n→b<n→xo w k a b (d a b)
 new:∀a b,a<n→b<n→(a<i∨(a=i∧b<j))→xo w (k+1) a b (d a b)
variable {w:Nat→Nat→Nat→Prop} {inf n:Nat}
theorem xo.le{k i j x y:Nat}(h:xo w k i j x)(hy:y≤x):xo w k i j y:=fun L hL=>asZ hy (h L hL)
theorem Mid.cell{k i j:Nat}{d:Mx}(h:Mid w inf n k i j d)(hi:i<n)(hj:j<n)(hk:k<n):Mid w inf n k i (j+1) (Qr d i j (min (d i j) (d i k+d k j))):=by
 obtain⟨h1,h2,h3⟩:=ahL h.fw hi hj hk (x:=min (d i j) (d i k+d k j)) rfl (d':=Qr d i j (min (d i j) (d i k+d k j))) (fun a b=>rfl);refine⟨h1,fun a b ha hb=>(h.py a b ha hb).le (h2 a b),fun a b ha hb hd=>?_⟩;by_cases e:a=i∧b=j
 ·obtain⟨rfl,rfl⟩:=e;exact h3 (h.py _ _ ha hk) (h.py _ _ hk hb) (h.py _ _ ha hb)
 ·exact(h.new a b ha hb (by omega)).le (h2 a b)
theorem Mid.row{k i:Nat}{d:Mx}(h:Mid w inf n k i 0 d)(hi:i<n)(hk:k<n):∀j,j≤n→Mid w inf n k i j (dj k i d j)
 |0,_=>h
 |j+1,hj=>(Mid.row h hi hk j (by omega)).cell hi (by omega) hk
theorem Mid.rows{k:Nat}{d:Mx}(h:Mid w inf n k 0 0 d)(hk:k<n):∀i,i≤n→Mid w inf n k i 0 (di n k d i)
 |0,_=>h
 |i+1,hi=>by have:=(Mid.rows h hk i (by omega)).row (by omega) hk n (ast _);exact⟨this.fw,this.py,fun a b ha hb hd=>this.new a b ha hb (by omega)⟩
structure aeu(w:Nat→Nat→Nat→Prop)(inf n k:Nat)(d:Mx):Prop where
 fw:Fw w inf n d
 low:∀a b,a<n→b<n→xo w k a b (d a b)
theorem aeu.rounds{d:Mx}(h:aeu w inf n 0 d):∀k,k≤n→aeu w inf n k (dk n d k)
 |0,_=>h
 |k+1,hk=>by have ih:=aeu.rounds h k (by omega);have:=Mid.rows (k:=k) ⟨ih.fw,ih.low,fun a b ha hb hd=>by omega⟩ (by omega) n (ast _);exact⟨this.fw,fun a b ha hb=>this.new a b ha hb (.inl ha)⟩
def XF(inf:Nat):Mx:=fun _ _=>inf
def lay(d:Mx)(e:Ed):Mx:=Qr d e.f e.t (min (d e.f e.t) e.c)
def start(inf:Nat)(E:List Ed):Mx:=E.foldl lay (XF inf)
theorem MD(inf:Nat)(E:List Ed)(e:Ed):start inf (E++[e])=lay (start inf E) e:=by simp[start]
theorem aev(E:List Ed):(∀i j,start inf E i j≤inf)∧(∀i j,start inf E i j<inf→(⟨i,j,start inf E i j⟩:Ed)∈E)∧∀e∈E,start inf E e.f e.t≤e.c:=by
 rw[←auw E];induction E.reverse with
 |nil=>simp[ast,start,XF]
 |cons e l ih=>
  rw[List.reverse_cons,MD];obtain⟨i1,i2,i3⟩:=ih;have hl:∀a b,lay (start inf l.reverse) e a b=if a=e.f∧b=e.t then min (start inf l.reverse e.f e.t) e.c else start inf l.reverse a b:=fun a b=>rfl;refine⟨fun a b=>?_,fun a b h=>?_,fun z hz=>?_⟩
  ·grind
  ·rw[hl]at h⊢;split
   ·rename_i hk;rw[IN hk]at h;by_cases hm:start inf l.reverse e.f e.t≤e.c
    ·simp_all
    ·rw[show min (start inf l.reverse e.f e.t) e.c=e.c by omega,hk.1,hk.2];simp
   simp_all
  grind
theorem ME(E:List Ed):aeu (ew E) inf n 0 (start inf E):=by obtain⟨h1,h2,h3⟩:=aev (inf:=inf) E;exact⟨⟨fun i j _ _=>h1 i j,fun i j _ _ h=>.MA (h2 i j h)⟩,fun a b _ _ L hL=>h3 ⟨a,b,L⟩ hL⟩
theorem ahQ{E:List Ed}{M:Nat}(hE:∀y∈E,y.f<n∧y.t<n)(hM:M<inf){i j:Nat}(hi:i<n)(hj:j<n)(Uc:i≠j){D:Int}(hD:VI E M i j D):(D= -1∧dk n (start inf E) n i j=inf)∨(D=(dk n (start inf E) n i j:Int)∧dk n (start inf E) n i j≤M):=by
 have hd:=(ME (n:=n) (inf:=inf) E).rounds n (ast _);have rch:∀L,Qm E i j L↔nH (ew E) i j L:=fun L=>⟨fun h=>by rcases h with⟨h,_⟩|h;exact absurd h.symm Uc;omega,.inr⟩;have hs:=ahM (w:=ew E) (fun a b c h=>(hE _ h).1) hd.fw hi hj (hd.low i j hi hj) (fun L acf hw=>by
  rcases hD with⟨_,h⟩|⟨L',_,hle,h1,h2⟩
  ·simp_all
  grind)
 rcases hD with⟨e,h⟩|⟨L',e,hle,h1,h2⟩
 ·left;refine⟨e,?_⟩;have ash:=hd.fw.top i j hi hj;by_cases cd:dk n (start inf E) n i j<inf
  ·exact absurd ((rch _).2 (hd.fw.real i j hi hj cd)) (h _)
  omega
 ·right;have:(if dk n (start inf E) n i j<inf then some (dk n (start inf E) n i j)else none)=some L':=hs.unique ⟨(rch L').1 h1,fun L'' hw=>h2 L'' ((rch L'').2 hw)⟩;simp_all
def HE(n:Nat)(r:Nat→Nat):List PV:=(List.range n).map fun j=>.int .i64 (r j)
def uw(n:Nat)(d:Mx):List PV:=(List.range n).map fun i=>.uY 1 (HE n (d i))
theorem DN(n:Nat)(d:Mx):(uw n d).length=n:=by simp[uw]
theorem AS(n:Nat)(r:Nat→Nat):(HE n r).length=n:=by simp[HE]
theorem AU{n i:Nat}(d:Mx)(h:i<n):(uw n d)[i]?=some (.uY 1 (HE n (d i))):=by simp[uw,h]
theorem DO{n j:Nat}(r:Nat→Nat)(h:j<n):(HE n r)[j]?=some (.int .i64 (r j)):=by simp[HE,h]
theorem S7{n i j:Nat}(d:Mx)(x:Nat)(hi:i<n)(hj:j<n):(uw n d).set i (.uY 1 ((HE n (d i)).set j (.int .i64 x)))=uw n (Qr d i j x):=by
 apply asB;intro a;rw[asU];by_cases e:i=a
 ·subst e;rw[IN rfl,IN (by rw[DN];omega),AU _ hi];congr 2;apply asB;intro b;rw[asU];by_cases e:j=b
  ·subst e;rw[IN rfl,IN (by rw[AS];omega),DO _ hj];simp[Qr]
  ·rw[IS e];by_cases hb:b<n
   ·simp_all[DO,Qr,Ne.symm]
   simp_all[atG,AS]
 ·rw[IS e];by_cases ha:a<n
  ·rw[AU _ ha,AU _ ha];simp_all[congr,HE,asJ,Qr,Ne.symm]
  simp_all[atG,DN]
theorem asR(es:List PV):fV 1 (cell (.uY 1 es) 0)=some es:=rfl
theorem cI(x:Int):cell (.int .i64 x) 0=.int .i64 x:=rfl
theorem anF(e p:PV):setRow 1 e 0 p=p:=rfl
theorem anG(q p:PV):setCells 1 q 0 1 p=p:=rfl
theorem ahR(a b:Nat)(hb:b≤4398046511104):(if IntKind.i64.wrap (b:Int)<(a:Int)then IntKind.i64.wrap (b:Int)else(a:Int))=((min a b:Nat):Int):=by grind [aZ]
theorem aj9(Fx:Int×Int×Int×List PV×Unit→Option PV)(n k i:Nat)(d:Mx)(hn:n≤64)(hk:k<n)(hi:i<n)(hd:∀j,j≤n→∀a b,a<n→b<n→dj k i d j a b≤1099511627776):bd.run (lS Fx) ((n:Int),(k:Int),(i:Int),0,uw n d,())=Fx ((n:Int),(k:Int),IntKind.i64.wrap ((i:Int)+1),uw n (dj k i d n),()):=by
 refine bg (fun j=>((n:Int),(k:Int),(i:Int),(j:Int),uw n (dj k i d j),())) n (fun j hj rec=>?_) (fun rec=>?_) (by unfold rounds;omega) rfl
 ·unfold lS;dsimp only;have hg:decide ((j:Int)<(n:Int))=true:=by simp;omega
  have ii:al (i:Int) (uw n (dj k i d j)).length:=Ku (by rw[DN];omega);have ik:al (k:Int) (uw n (dj k i d j)).length:=Ku (by rw[DN];omega);have ji:al (j:Int) (HE n (dj k i d j i)).length:=Ku (by rw[AS];omega);have ki:al (k:Int) (HE n (dj k i d j i)).length:=Ku (by rw[AS];omega);have jk:al (j:Int) (HE n (dj k i d j k)).length:=Ku (by rw[AS];omega);have b1:=hd j (by omega) i k hi hk;have b2:=hd j (by omega) k j hk hj;have hs:(((dj k i d j i k:Nat):Int)+((dj k i d j k j:Nat):Int))=((dj k i d j i k+dj k i d j k j:Nat):Int):=by omega
  simp only[hg,BY,IN ii,IN ik,are,AU _ hi,AU _ hk,U,asR,IN ji,IN ki,IN jk,DO _ hj,DO _ hk,cI,Nc,anF,anG,hs,ahR _ _ (show dj k i d j i k+dj k i d j k j≤4398046511104 by omega),S7 _ _ hi hj,ab (show j<9223372036854775807 by omega)];rfl
 simp[lS,IS]
theorem aka(XG:Int×Int×List PV×Unit→Option PV)(n k:Nat)(d:Mx)(hn:n≤64)(hk:k<n)(hd:∀i,i<n→∀j,j≤n→∀a b,a<n→b<n→dj k i (di n k d i) j a b≤1099511627776):bd.run (lT bd XG) ((n:Int),(k:Int),0,uw n d,())=XG ((n:Int),IntKind.i64.wrap ((k:Int)+1),uw n (di n k d n),()):=by
 refine bg (fun i=>((n:Int),(k:Int),(i:Int),uw n (di n k d i),())) n (fun i hi rec=>?_) (fun rec=>?_) (by unfold rounds;omega) rfl
 ·unfold lT;dsimp only;have hg:decide ((i:Int)<(n:Int))=true:=by simp;omega
  rw[IN hg,aj9 rec n k i _ hn hk hi (hd i hi),ab (by omega)];rfl
 simp[lT,IS]
theorem akb(n:Nat)(d:Mx)(hn:n≤64)(hd:∀k,k<n→∀i,i<n→∀j,j≤n→∀a b,a<n→b<n→dj k i (di n k (dk n d k) i) j a b≤1099511627776):bd.run (lU bd) ((n:Int),0,uw n d,())=some (.rs 1 ((uw n (dk n d n)).map PV.strip)):=by
 refine bg (fun k=>((n:Int),(k:Int),uw n (dk n d k),())) n (fun k hk rec=>?_) (fun rec=>?_) (by unfold rounds;omega) rfl
 ·unfold lU;dsimp only;have hg:decide ((k:Int)<(n:Int))=true:=by simp;omega
  rw[IN hg,aka rec n k _ hn hk (hd k hk),ab (by omega)];rfl
 simp[lU,IS]
abbrev HF:Nat:=1099511627776
theorem abl(n:Nat):List.replicate n (PV.uY 1 (List.replicate n (PV.int .i64 1099511627776)))=uw n (XF HF):=by
 unfold uw HE XF;apply asB;intro i;by_cases hi:i<n
 ·have:(List.range n).map (fun j=>PV.int .i64 ((HF:Nat):Int))=List.replicate n (PV.int .i64 1099511627776):=by apply asB;grind
  simp_all
 simp_all
theorem abm(n:Nat)(d:Mx):(uw n d).map PV.strip=fJ n fun i j=>((d i j:Nat):Int):=by unfold uw fJ HE B9;rw[atZ];rfl
theorem aew(a b:Nat):(if(b:Int)<(a:Int)then(b:Int)else(a:Int))=((min a b:Nat):Int):=by omega
theorem Qs(fr:Bool)(l:List Fp)(p:Fp):counted fr (l++[p])=if(fr&& !p.free)=true then counted fr l else counted fr l++[p.ed]:=by unfold counted;grind
theorem HG(l:List Fp)(n:Nat)(hn:n≤64)(hl:l.length≤4096)(h:∀p∈l,p.a<n∧p.b<n)(fr:Bool):jY [.rs 4 (l.map Fp.pv),.int .i64 n,.bool fr]=some (.rs 1 (fJ n fun i j=>((dk n (start HF (counted fr l)) n i j:Nat):Int))):=by
 have e0:ao 4 (.rs 4 (l.map Fp.pv))=some (l.map Fp.pv):=by rfl
 have hE:∀y∈counted fr l,y.f<n∧y.t<n:=fun y hy=>by obtain⟨p,hp,rfl⟩:=DM hy;exact h p hp
 simp only[jY,xr,e0,U,Nc,asBool];refine bg (fun i=>(l.map Fp.pv,(n:Int),fr,(i:Int),List.replicate i (PV.uY 1 (List.replicate n (PV.int .i64 1099511627776))),())) n (fun i hi rec=>?_) (fun rec=>?_) (by unfold rounds;omega) rfl
 ·unfold qX;dsimp only;have hg:decide ((i:Int)<(n:Int))=true:=by simp;omega
  rw[IN hg];refine bg (fun j=>(l.map Fp.pv,(n:Int),fr,(i:Int),(j:Int),List.replicate i (PV.uY 1 (List.replicate n (PV.int .i64 1099511627776))),List.replicate j (PV.int .i64 1099511627776),())) n (fun j hj jU=>?_) (fun jU=>?_) (by unfold rounds;omega) rfl
  ·unfold qY;dsimp only;have hg:decide ((j:Int)<(n:Int))=true:=by simp;omega
   have Np:List.replicate j (PV.int .i64 1099511627776)++[PV.int .i64 1099511627776]=List.replicate (j+1) (PV.int .i64 1099511627776):=(avm ..).symm;rw[IN hg];simp only[Np,as7];rw[IN (by unfold ah;omega),ab (by omega)]
  ·unfold qY;dsimp only;have Np:List.replicate i (PV.uY 1 (List.replicate n (PV.int .i64 1099511627776)))++[PV.uY 1 (List.replicate n (PV.int .i64 1099511627776))]=List.replicate (i+1) (PV.uY 1 (List.replicate n (PV.int .i64 1099511627776))):=(avm ..).symm;rw[IS (by simp)];simp only[Np,as7];rw[IN (by unfold ah;omega),ab (by omega)]
 ·unfold qX;dsimp only;rw[IS (by simp),abl];refine bg (fun k=>(l.map Fp.pv,(n:Int),fr,(k:Int),uw n (start HF (counted fr (l.take k))),())) l.length (fun k hk jU=>?_) (fun jU=>?_) (by unfold rounds;omega) rfl
  ·unfold qZ;dsimp only;have hg:decide ((k:Int)<((l.map Fp.pv).length:Int))=true:=by simp;omega
   obtain⟨p,hp⟩:∃p,l[k]?=some p:=⟨_,cN hk⟩;have Kk:(l.map Fp.pv)[k]?=some p.pv:=by simp_all
   have htk:l.take (k+1)=l.take k++[p]:=by rw[auZ,hp];rfl
   obtain⟨pa,pb⟩:=h p (aqY hp);have hr:(bif p.free then some true else some !fr)=some (!(fr&& !p.free)):=by grind
   rw[IN hg,ag,Kk,U,htk,Qs];simp only[fp3,asBool,U,hr];cases hb:(fr&& !p.free)with
   |true=>simp only[ahX,cQ,IT,BY,ab (show k<9223372036854775807 by omega)]
   |false=>
    obtain⟨d,hd⟩:∃d,d=start HF (counted fr (l.take k)):=⟨_,rfl⟩;have ia:al (p.a:Int) (uw n d).length:=Ku (by rw[DN];omega);have ib:al (p.b:Int) (HE n (d p.a)).length:=Ku (by rw[AS];omega);have uQ:uw n (start HF (counted fr (l.take k)++[p.ed]))=uw n (Qr d p.a p.b (min (d p.a p.b) p.c)):=by rw[MD,←hd];rfl
    simp only[asw,BY,cQ,IT,uQ,←hd,fp0,fp1,fp2,Nc,U,IN ia,are,AU _ pa,asR,IN ib,DO _ pb,cI,anF,anG,aew,S7 _ _ pa pb,ab (show k<9223372036854775807 by omega)]
  ·unfold qZ;dsimp only;rw[IS (by simp),asP,←abm];have anH:=ME (n:=n) (inf:=HF) (counted fr l);exact akb n _ hn fun k hk i hi j hj a b ha hb=>by have ih:=anH.rounds k (by omega);have:=(Mid.rows (k:=k) ⟨ih.fw,ih.low,fun a b ha hb hd=>by omega⟩ hk i (by omega)).row hi hk j hj;exact this.fw.top a b ha hb
def fpI(i k:Nat)(s:Int)(b:Bool):PV:=.agg [.int .i64 i,.int .i64 k,.int .i64 s,.bool b]
def J7(w f:Int)(i k:Nat):List PV:=if i=k∨w>14400 then[]else fpI i k w (f==w)::(if f>w∧f≤14400 then[fpI i k f true]else[])
def DP(n:Nat)(it:Nat→Nat→List PV)(i:Nat):List PV:=(List.range n).flatMap (it i)
def Gq(n:Nat)(it:Nat→Nat→List PV)(m:Nat):List PV:=(List.range m).flatMap (DP n it)
theorem IX(n:Nat)(it:Nat→Nat→List PV)(i:Nat):DP (n+1) it i=DP n it i++it i n:=by simp[DP,atB,auC]
theorem IY(n:Nat)(it:Nat→Nat→List PV)(m:Nat):Gq n it (m+1)=Gq n it m++DP n it m:=by simp[Gq,atB,auC]
theorem HH{it:Nat→Nat→List PV}(h:∀i k,(it i k).length≤2)(i:Nat):∀k,(DP k it i).length≤2*k
 |0=>by simp[DP]
 |k+1=>by rw[IX,asn];have:=HH h i k;have:=h i k;omega
theorem Hy{it:Nat→Nat→List PV}(h:∀i k,(it i k).length≤2)(n:Nat):∀m,(Gq n it m).length≤2*n*m
 |0=>by simp[Gq]
 |m+1=>by rw[IY,asn,Nat.mul_succ];have:=Hy h n m;have:=HH h m n;omega
theorem Qf(w f:Int)(i k:Nat):(J7 w f i k).length≤2:=by grind [J7]
theorem O3{n k:Nat}(D:Nat→Int)(h:k<n):(B9 n D)[k]?=some (.int .i64 (D k)):=by simp[B9,h]
theorem IZ{n i:Nat}(D:Nat→Nat→Int)(h:i<n):(fJ n D)[i]?=some (.rs 1 (B9 n (D i))):=by simp[fJ,h]
theorem akc(es:List PV):ao 1 (cell (.rs 1 es) 0)=some es:=by rfl
theorem A5{a:List PV}(h:a.length≤16384):a.length*32≤ah∧0<32:=by unfold ah;omega
theorem VJ(Qt:akd→Option PV)(n i:Nat)(W F:Nat→Nat→Int)(hn:n≤64)(hi:i<n)(acc:List PV)(aqL:acc.length≤8192):bd.run (ow bd Qt) ((n:Int),fJ n W,fJ n F,(i:Int),0,acc,())=Qt ((n:Int),fJ n W,fJ n F,IntKind.i64.wrap ((i:Int)+1),acc++DP n (fun i k=>J7 (W i k) (F i k) i k) i,()):=by
 refine bg (fun k=>((n:Int),fJ n W,fJ n F,(i:Int),(k:Int),acc++DP k (fun i k=>J7 (W i k) (F i k) i k) i,())) n (fun k hk rec=>?_) (fun rec=>?_) (by unfold rounds;omega) (by simp[DP])
 ·unfold ow;dsimp only;have hg:decide ((k:Int)<(n:Int))=true:=by simp;omega
  rw[IX];have hlen:=HH (it:=fun i k=>J7 (W i k) (F i k) i k) (fun i k=>Qf _ _ i k) i k;generalize hA:acc++DP k (fun i k=>J7 (W i k) (F i k) i k) i=A;have hAl:A.length≤8192+128:=by grind
  rw[←asD,hA];simp only[hg,BY,ag,IZ _ hi,U,akc,O3 _ hk,cI,Nc,ab (show k<9223372036854775807 by omega)];generalize W i k=w;generalize F i k=f;by_cases hik:i=k
  ·simp_all[J7,IN,cond_true,U,BY,atf]
  ·have hb:((i:Int)==(k:Int))=false:=by grind
   simp only[hb,cond_false,U];by_cases hw:w>14400
   ·simp_all[J7,IN,asv,BY,atf]
   ·have hr1:(A++[PV.agg [.int .i64 i,.int .i64 k,.int .i64 w,.bool (f==w)]]).length*32≤ah∧0<32:=A5 (by simp;omega);simp only[hw,asx,cQ,IT,IN hr1];by_cases hf:f>w
    ·by_cases hf2:f≤14400
     ·have Ul:(A++[PV.agg [.int .i64 i,.int .i64 k,.int .i64 w,.bool (f==w)]]++[PV.agg [.int .i64 i,.int .i64 k,.int .i64 f,.bool true]]).length*32≤ah∧0<32:=A5 (by simp;omega);have hit:J7 w f i k=[fpI i k w (f==w),fpI i k f true]:=by simp_all[J7,IS,IN]
      simp only[hf,hf2,asv,cond_true,U,BY,IN Ul,hit];rw[asD];rfl
     ·have hit:J7 w f i k=[fpI i k w (f==w)]:=by simp_all[J7,IS]
      simp only[hf,hf2,asv,asx,cond_true,U,cQ,IT,hit];rfl
    ·have hit:J7 w f i k=[fpI i k w (f==w)]:=by unfold J7;grind
     simp only[hf,asx,cond_false,U,cQ,IT,hit];rfl
 simp[ow,IS]
theorem S8(n:Nat)(W F:Nat→Nat→Int)(hn:n≤64):bd.run (oz bd) ((n:Int),fJ n W,fJ n F,0,[],())=some (.rs 4 (Gq n (fun i k=>J7 (W i k) (F i k) i k) n)):=by
 refine bg (fun i=>((n:Int),fJ n W,fJ n F,(i:Int),Gq n (fun i k=>J7 (W i k) (F i k) i k) i,())) n (fun i hi rec=>?_) (fun rec=>?_) (by unfold rounds;omega) rfl
 ·unfold oz;dsimp only;have hg:decide ((i:Int)<(n:Int))=true:=by simp;omega
  have hlen:=Hy (it:=fun i k=>J7 (W i k) (F i k) i k) (fun i k=>Qf _ _ i k) n i;have hb:2*n*i≤2*64*64:=auj (by omega) (by omega);rw[IN hg,VJ rec n i W F hn hi _ (by omega),IY,ab (by omega)]
 simp[oz,IS]
def AO(n:Nat)(l:List Fp)(fr:Bool)(i j:Nat):Int:=((dk n (start HF (counted fr l)) n i j:Nat):Int)
theorem VK(l:List Fp)(n:Nat)(hn:n≤64)(hl:l.length≤4096)(h:∀p∈l,p.a<n∧p.b<n):jW [.rs 4 (l.map Fp.pv),.int .i64 n]=some (.rs 4 (Gq n (fun i k=>J7 (AO n l false i k) (AO n l true i k) i k) n)):=by
 have e0:ao 4 (.rs 4 (l.map Fp.pv))=some (l.map Fp.pv):=by rfl
 have e1:∀es,ao 1 (.rs 1 es)=some es:=fun es=>by rfl
 simp only[jW,BN,e0,U,Nc,HG l n hn hl h false,HG l n hn hl h true,e1];simp_all[S8,AO]
def TQ(w f:Int)(i k:Nat):List PV:=if i=k then[]else(if 0<w∧w≤14400 then[fpI i k w (f==w)]else[])++(if f≠w∧0<f∧f≤14400 then[fpI i k f true]else[])
theorem nH.pos{w:Nat→Nat→Nat→Prop}(h:∀i j c,w i j c→1≤c){i j L:Nat}(hw:nH w i j L):1≤L:=by
 cases hw with
 |MA e=>exact h _ _ _ e
 |snoc _ e=>have:=h _ _ _ e;omega
def ahS(M:Nat)(d w:Int):Prop:=(d= -1∧w=(HF:Int))∨(d=w∧1≤w∧w≤M)
theorem anI{M:Nat}(hM:M<HF){d0 d1 w f:Int}(h0:ahS M d0 w)(h1:ahS M d1 f)(h10:d1≠-1→d0≠-1∧d0≤d1)(i k:Nat):TQ d0 d1 i k=J7 w f i k:=by
 unfold TQ J7;by_cases hik:i=k
 ·simp_all
 ·rw[IS hik];have hM:(M:Int)<1099511627776:=by grind
  have aqM:((HF:Nat):Int)=1099511627776:=rfl;rw[ahS,aqM]at h0 h1;rcases h0 with⟨e0,w0⟩|⟨e0,w1,w2⟩
  ·simp_all
  ·subst e0;rcases h1 with⟨e1,f0⟩|⟨e1,f1,f2⟩
   ·by_cases hw:d0≤14400
    ·have b1:(d1==d0)=false:=by grind
     have b2:(f==d0)=false:=by grind
     grind
    simp_all
   grind
theorem ahT{l:List Fp}{n B:Nat}(hn:n≤64)(hB:B≤1073741824)(h:∀p∈l,p.a<n∧p.b<n∧1≤p.c∧p.c≤B)(fr:Bool){i k:Nat}(hi:i<n)(hk:k<n)(hik:i≠k){d:Int}(hd:VI (counted fr l) (B*n) i k d):ahS (B*n) d (AO n l fr i k):=by
 have hE:∀y∈counted fr l,y.f<n∧y.t<n∧1≤y.c:=fun y hy=>by obtain⟨p,hp,rfl⟩:=DM hy;obtain⟨a,b,c,_⟩:=h p hp;exact⟨a,b,c⟩
 have hM:B*n<HF:=by have:B*n≤1073741824*64:=auj hB hn;grind
 rcases ahQ (inf:=HF) (fun y hy=>⟨(hE y hy).1,(hE y hy).2.1⟩) hM hi hk hik hd with⟨e1,e2⟩|⟨e1,e2⟩
 ·exact .inl ⟨e1,by unfold AO;omega⟩
 ·refine .inr ⟨e1,?_,by unfold AO;omega⟩;rcases hd with⟨e,_⟩|⟨L,e,_,hr,_⟩
  ·omega
  ·have:1≤L:=by
    rcases hr with⟨h,_⟩|hw
    ·omega
    ·exact hw.pos fun a b c hc=>(hE _ hc).2.2
   unfold AO;omega
theorem ahU{l:List Fp}{M i k:Nat}{d0 d1:Int}(h0:VI (counted false l) M i k d0)(h1:VI (counted true l) M i k d1)(cV:d1≠-1):d0≠-1∧d0≤d1:=by
 have sub:∀y,y∈counted true l→y∈counted false l:=fun y hy=>by unfold counted at hy⊢;grind
 rcases h1 with⟨e,_⟩|⟨L1,e1,_,r1,_⟩
 ·omega
 ·have r:=r1.mem sub;rcases h0 with⟨_,h⟩|⟨L0,e0,_,_,m0⟩
  ·exact absurd r (h L1)
  simp_all
theorem XH(w f:Int)(i k:Nat):(TQ w f i k).length≤2:=by grind [TQ,List.length_append]
theorem abn(Qt:TY8→Option PV)(n i:Nat)(W F:Nat→Nat→Int)(hn:n≤64)(hi:i<n)(acc:List PV)(aqL:acc.length≤8192):bd.run (jm bd Qt) (fJ n W,fJ n F,(i:Int),(n:Int),(i:Int),B9 n (W i),(n:Int),0,acc,())=Qt (fJ n W,fJ n F,(n:Int),IntKind.i64.wrap ((i:Int)+1),acc++DP n (fun i k=>TQ (W i k) (F i k) i k) i,()):=by
 refine bg (fun k=>(fJ n W,fJ n F,(i:Int),(n:Int),(i:Int),B9 n (W i),(n:Int),(k:Int),acc++DP k (fun i k=>TQ (W i k) (F i k) i k) i,())) n (fun k hk rec=>?_) (fun rec=>?_) (by unfold rounds;omega) (by simp[DP])
 ·unfold jm;dsimp only;have hg:decide ((k:Int)<(n:Int))=true:=by simp;omega
  rw[IX];have hlen:=HH (it:=fun i k=>TQ (W i k) (F i k) i k) (fun i k=>XH _ _ i k) i k;generalize hA:acc++DP k (fun i k=>TQ (W i k) (F i k) i k) i=A;have hAl:A.length≤8192+128:=by grind
  rw[←asD,hA];simp only[hg,BY,ag,O3 _ hk,IZ _ hi,U,akc,cI,Nc,ab (show k<9223372036854775807 by omega)];generalize W i k=w;generalize F i k=f;by_cases hik:i=k
  ·simp_all[TQ,IN,BY,atf]
  ·have hb:((i:Int)==(k:Int))=false:=by grind
   have hand:∀x:Int,(bif decide (x>0)then some (decide (x≤14400))else some false)=some (decide (0<x∧x≤14400)):=fun x=>by grind
   have hr1:(A++[PV.agg [.int .i64 i,.int .i64 k,.int .i64 w,.bool (f==w)]]).length*32≤ah∧0<32:=A5 (by simp;omega);have Ul:(A++[PV.agg [.int .i64 i,.int .i64 k,.int .i64 w,.bool (f==w)]]++[PV.agg [.int .i64 i,.int .i64 k,.int .i64 f,.bool true]]).length*32≤ah∧0<32:=A5 (by simp;omega);have hr3:(A++[PV.agg [.int .i64 i,.int .i64 k,.int .i64 f,.bool true]]).length*32≤ah∧0<32:=A5 (by simp;omega);have cV:(f !=w)=decide (f≠w):=by grind
   have hit:TQ w f i k=(if 0<w∧w≤14400 then[fpI i k w (f==w)]else[])++(if f≠w∧0<f∧f≤14400 then[fpI i k f true]else[]):=IS hik;simp only[hb,cQ,IT,hand,U,cV,cT,hit,IN hr1,IN Ul,IN hr3];by_cases h1:0<w∧w≤14400
   ·by_cases h2:f≠w
    ·by_cases h3:0<f∧f≤14400
     ·rw[IN h1,IN h2,IN h3,IN h1,IN ⟨h2,h3⟩,asD];rfl
     ·rw[IN h1,IN h2,IS h3,IN h1,IS (fun h=>h3 h.2)];rfl
    ·rw[IN h1,IS h2,IN h1,IS (fun h=>h2 h.1)];rfl
   ·by_cases h2:f≠w
    ·by_cases h3:0<f∧f≤14400
     ·rw[IS h1,IN h2,IN h3,IS h1,IN ⟨h2,h3⟩];rfl
     grind
    grind
 simp[jm,IS]
theorem VL(n:Nat)(W F:Nat→Nat→Int)(hn:n≤64){es':List PV}(hs:C2 4 (fun c a b=>cD [a,b]) (Gq n (fun i k=>TQ (W i k) (F i k) i k) n)=some es'):bd.run (jn bd) (fJ n W,fJ n F,(n:Int),0,[],())=some (.rs 4 es'):=by
 have hlen:∀i,i≤n→(Gq n (fun i k=>TQ (W i k) (F i k) i k) i).length≤8192:=fun i hi=>by have h1:=Hy (it:=fun i k=>TQ (W i k) (F i k) i k) (fun i k=>XH _ _ i k) n i;have hb:2*n*i≤2*64*64:=auj (by omega) (by omega);omega
 refine bg (fun i=>(fJ n W,fJ n F,(n:Int),(i:Int),Gq n (fun i k=>TQ (W i k) (F i k) i k) i,())) n (fun i hi rec=>?_) (fun rec=>?_) (by unfold rounds;omega) rfl
 ·unfold jn;dsimp only;have hg:decide ((i:Int)<(n:Int))=true:=by simp;omega
  have hrl:((B9 n (W i)).length:Int)=(n:Int):=by simp[B9]
  rw[IN hg,ag,IZ _ hi,U,akc,U,hrl,abn rec n i W F hn hi _ (hlen i (by omega)),IY,ab (by omega)]
 ·unfold jn;dsimp only;have h:=hlen n (ast _);rw[IS (by simp),IN (by(first|refine⟨rfl,?_,rfl⟩|refine⟨rfl,?_⟩);unfold ah;omega),hs];rfl
def kI:PV→Int
 |.int _ n=>n
 |_=>0
def c3(x y:Int):Int:=if x<y then-1 else if x>y then 1 else 0
def or3(a b c:Int):Int:=if a≠0 then a else if b≠0 then b else c
def cfp(a b:List PV):Int:=or3 (c3 (kI (a.getD 0 .bad)) (kI (b.getD 0 .bad))) (c3 (kI (a.getD 1 .bad)) (kI (b.getD 1 .bad))) (c3 (kI (a.getD 2 .bad)) (kI (b.getD 2 .bad)))
theorem VM(x y:Int):fK [.int .i64 x,.int .i64 y]=some (.int .i64 (c3 x y)):=by
 have h:∀z:Int,¬(z !=z)=true:=fun z=>by simp
 simp only[fK,ux,Nc,U,IS (h x),IS (h y),cT];unfold c3;grind
theorem anJ(a b c:Int):vB [.rs 1 [.int .i64 a,.int .i64 b,.int .i64 c]]=some (.int .i64 (or3 a b c)):=by
 have e0:ao 1 (.rs 1 [.int .i64 a,.int .i64 b,.int .i64 c])=some [.int .i64 a,.int .i64 b,.int .i64 c]:=by rfl
 simp only[vB,Gs,e0,U];obtain⟨es,QI⟩:∃es,es=[PV.int .i64 a,.int .i64 b,.int .i64 c]:=⟨_,rfl⟩;have hl:((es.length:Nat):Int)=3:=by rw[QI];rfl
 rw[←QI];have hb:∀(k:Nat)(x:Int),es[k]?=some (.int .i64 x)→k<3→∀rec,fi (0,es,((es.length:Nat):Int),(k:Int),()) rec=if x≠0 then some (.int .i64 x)else rec (0,es,((es.length:Nat):Int),((k+1:Nat):Int),()):=fun k x hx hk rec=>by
  unfold fi;dsimp only;have hg:decide ((k:Int)<((es.length:Nat):Int))=true:=by rw[hl];simp;omega
  rw[IN hg,ag,hx,U,cI,Nc,U,ab (by omega)];simp
 have he:∀rec,fi (0,es,((es.length:Nat):Int),((3:Nat):Int),()) rec=some (.int .i64 0):=fun rec=>by unfold fi;simp_all
 have hN:rounds=18446744073709551612+1+1+1+1:=rfl;rw[pM,hN];generalize 18446744073709551612=N;show fi (0,es,((es.length:Nat):Int),((0:Nat):Int),()) _=_;rw[hb 0 a (by rw[QI];rfl) (by omega)];unfold or3;by_cases h1:a≠0
 ·simp_all
 ·rw[IS h1,IS h1];show fi (0,es,((es.length:Nat):Int),((1:Nat):Int),()) _=_;rw[hb 1 b (by rw[QI];rfl) (by omega)];by_cases h2:b≠0
  ·simp_all
  ·rw[IS h2,IS h2];show fi (0,es,((es.length:Nat):Int),((2:Nat):Int),()) _=_;rw[hb 2 c (by rw[QI];rfl) (by omega)];by_cases h3:c≠0
   ·rw[IN h3]
   ·rw[IS h3];show fi (0,es,((es.length:Nat):Int),((3:Nat):Int),()) _=_;simp_all
def fpc(i k:Nat)(s:Int)(b:Bool):List PV:=[.int .i64 i,.int .i64 k,.int .i64 s,.bool b]
theorem aex(i k:Nat)(s:Int)(b:Bool)(i' k':Nat)(s':Int)(b':Bool):cD [ET (fpc i k s b),ET (fpc i' k' s' b')]=some (.int .i64 (cfp (fpc i k s b) (fpc i' k' s' b'))):=by have a:∀(w x y z:PV),asAgg 4 (.agg [w,x,y,z])=some ():=fun _ _ _ _=>rfl;have a0:∀(w x y z:PV),cell (.agg [w,x,y,z]) 0=w:=fun _ _ _ _=>rfl;have a1:∀(w x y z:PV),cell (.agg [w,x,y,z]) 1=x:=fun _ _ _ _=>rfl;have a2:∀(w x y z:PV),cell (.agg [w,x,y,z]) 2=y:=fun _ _ _ _=>rfl;have a3:∀(w x y z:PV),cell (.agg [w,x,y,z]) 3=z:=fun _ _ _ _=>rfl;simp only[cD,oW,ET,fpc,a,a0,a1,a2,a3,Nc,asBool,U,VM,anJ];rfl
theorem aey(x y:Int):(c3 x y<0↔x<y)∧(c3 x y=0↔x=y):=by grind [c3]
theorem I0(i k:Nat)(s:Int)(b:Bool)(i' k':Nat)(s':Int)(b':Bool):cfp (fpc i k s b) (fpc i' k' s' b')<0↔i<i'∨(i=i'∧(k<k'∨(k=k'∧s<s'))):=by show or3 (c3 (i:Int) (i':Int)) (c3 (k:Int) (k':Int)) (c3 s s')<0↔_;have h1:=aey (i:Int) (i':Int);grind [aey,or3]
def IsF(e:List PV):Prop:=∃i k s b,e=fpc i k s b
variable{ns:List (List PV)}
theorem VN(h:ns.Pairwise fun a b=>cfp a b<0):∀a∈ns,∀b∈ns,¬cfp a b<0→¬cfp b a<0→a=b:=by
 induction h with
 |nil=>simp
 | @cons x l hx _ ih=>grind
theorem S9(hF:∀e∈ns,IsF e)(h:ns.Pairwise fun a b=>cfp a b<0):mT 4 (fun c a b=>cD [a,b]) ns ns cfp where
 len a ha:=by obtain⟨i,k,s,b,rfl⟩:=hF a ha;rfl
 aci a ha p hp:=by obtain⟨i,k,s,b,rfl⟩:=hF a ha;simp only[fpc,asm,atF,avj]at hp;rcases hp with rfl|rfl|rfl|rfl<;>rfl
 perm:=List.Perm.refl _
 reads c _ _ a ha b hb:=by obtain⟨i,k,s,q,rfl⟩:=hF a ha;obtain⟨i',k',s',q',rfl⟩:=hF b hb;exact aex ..
 irrefl a ha:=by obtain⟨i,k,s,q,rfl⟩:=hF a ha;rw[I0];omega
 trans a ha b hb c hc h1 h2:=by obtain⟨i,k,s,q,rfl⟩:=hF a ha;obtain⟨i',k',s',q',rfl⟩:=hF b hb;obtain⟨i2,k2,s2,q2,rfl⟩:=hF c hc;rw[I0]at*;omega
 total:=VN h
 sorted:=h.imp_of_mem fun{a b}ha hb Az=>by obtain⟨i,k,s,q,rfl⟩:=hF a ha;obtain⟨i',k',s',q',rfl⟩:=hF b hb;rw[I0]at*;omega
def itC(w f:Int)(i k:Nat):List (List PV):=if i=k∨w>14400 then[]else fpc i k w (f==w)::(if f>w∧f≤14400 then[fpc i k f true]else[])
theorem ahV(w f:Int)(i k:Nat):(itC w f i k).map ET=J7 w f i k:=by
 unfold itC J7;split
 ·rfl
 ·split<;>rfl
def Nz(n:Nat)(W F:Nat→Nat→Int):List (List PV):=(List.range n).flatMap fun i=>(List.range n).flatMap fun k=>itC (W i k) (F i k) i k
theorem IP(n:Nat)(W F:Nat→Nat→Int):fp (Nz n W F)=Gq n (fun i k=>J7 (W i k) (F i k) i k) n:=by unfold fp Nz Gq DP;rw[List.map_flatMap];congr 1;funext i;rw[List.map_flatMap];congr 1;funext k;exact ahV ..
theorem HI{w f:Int}{i k:Nat}{e:List PV}(h:e∈itC w f i k):∃s b,e=fpc i k s b:=by unfold itC at h;grind
theorem SL(n:Nat)(W F:Nat→Nat→Int):∀e∈Nz n W F,IsF e:=fun e h=>by obtain⟨i,_,h⟩:=aut.1 h;obtain⟨k,_,h⟩:=aut.1 h;obtain⟨s,b,rfl⟩:=HI h;exact⟨i,k,s,b,rfl⟩
theorem Ta(n:Nat)(W F:Nat→Nat→Int):(Nz n W F).Pairwise fun a b=>cfp a b<0:=by
 unfold Nz;rw[au8];refine⟨fun i _=>?_,List.pairwise_lt_range.imp fun{i i'}hii x hx y hy=>?_⟩
 ·rw[au8];refine⟨fun k _=>?_,List.pairwise_lt_range.imp fun{k k'}B5 x hx y hy=>?_⟩
  ·unfold itC;split
   ·simp
   grind [I0]
  ·obtain⟨s,b,rfl⟩:=HI hx;obtain⟨s',b',rfl⟩:=HI hy;rw[I0];omega
 ·obtain⟨k,_,hx⟩:=aut.1 hx;obtain⟨k',_,hy⟩:=aut.1 hy;obtain⟨s,b,rfl⟩:=HI hx;obtain⟨s',b',rfl⟩:=HI hy;rw[I0];omega
theorem Vw(l:List Fp)(n:Nat)(hn:n≤64)(hl:l.length≤4096)(h:∀p∈l,p.a<n∧p.b<n∧1≤p.c∧p.c≤14400):gI [.rs 4 (l.map Fp.pv),.int .i64 n]=some (.rs 4 (fp (Nz n (AO n l false) (AO n l true))))∧jW [.rs 4 (l.map Fp.pv),.int .i64 n]=some (.rs 4 (fp (Nz n (AO n l false) (AO n l true)))):=by
 have hr:=VK l n hn hl fun p hp=>⟨(h p hp).1,(h p hp).2.1⟩;rw[←IP]at hr;refine⟨?_,hr⟩;have hB:(14400:Nat)≤1073741824:=by omega
 obtain⟨D0,d0,e0⟩:=XE l n 14400 hn hl hB (fun p hp=>⟨(h p hp).1,(h p hp).2.1,(h p hp).2.2.2⟩) false;obtain⟨D1,d1,e1⟩:=XE l n 14400 hn hl hB (fun p hp=>⟨(h p hp).1,(h p hp).2.1,(h p hp).2.2.2⟩) true;have hM:14400*n<HF:=by grind
 have UA:Gq n (fun i k=>TQ (D0 i k) (D1 i k) i k) n=fp (Nz n (AO n l false) (AO n l true)):=by
  rw[IP];unfold Gq DP;rw[aur,aur];congr 1;apply asJ;intro i hi;rw[aur,aur];congr 1;apply asJ;intro k hk;have hi:=ath.1 hi;have hk:=ath.1 hk;dsimp only;by_cases hik:i=k
  ·simp_all[TQ,IN,J7,AO]
  grind [anI,ahT,ahU]
 have a0:ao 4 (.rs 4 (l.map Fp.pv))=some (l.map Fp.pv):=by rfl
 have a1:∀es,ao 1 (.rs 1 es)=some es:=fun es=>by rfl
 have hlen:((fJ n D0).length:Int)=(n:Int):=by simp[fJ]
 simp only[gI,su,a0,Nc,U,e0,e1,a1,hlen];exact VL n D0 D1 hn (by rw[UA];exact aap (S9 (SL _ _ _) (Ta _ _ _)))
end Go.Ab.Nw
