import Derived.Test.YtmbihgjlollbeaaGreatNwP1
namespace Go.Ab.Nw
set_option maxRecDepth 100000
set_option linter.all false
def Pq(E:List Ed)(M:Nat)(s v:Nat)(d:Int):Prop:=(d= -1∧∀L,¬J6 E s v L)∨∃L:Nat,d=L∧L≤M∧J6 E s v L∧∀L',J6 E s v L'→L≤L'
theorem Pq.unique{E:List Ed}{M M' s v:Nat}{d d':Int}(h:Pq E M s v d)(h':Pq E M' s v d'):d=d':=by
 rcases h with⟨e,h⟩|⟨L,e,_,h1,h2⟩
 ·rcases h' with⟨e',_⟩|⟨L',_,_,h1',_⟩
  ·omega
  simp_all
 ·rcases h' with⟨_,h'⟩|⟨L',e',_,h1',ZW⟩
  ·exact absurd h1 (h' L)
  grind
theorem J6.mem{E E':List Ed}(h:∀y,y∈E→y∈E'){s v L:Nat}(hr:J6 E s v L):J6 E' s v L:=by
 rcases hr with hr|hr
 ·exact .inl hr
 ·exact .inr (hr.mono fun i j c hc=>h _ hc)
theorem Pq.mem{E E':List Ed}(h:∀y,y∈E↔y∈E'){M s v:Nat}{d:Int}(hd:Pq E M s v d):Pq E' M s v d:=by
 rcases hd with⟨e,h1⟩|⟨L,e,hM,h1,h2⟩
 ·exact .inl ⟨e,fun L hL=>h1 L (hL.mem fun y hy=>(h y).2 hy)⟩
 ·exact .inr ⟨L,e,hM,h1.mem fun y hy=>(h y).1 hy,fun L' hL=>h2 L' (hL.mem fun y hy=>(h y).2 hy)⟩
def wE(n:Nat)(D:Nat→Int):List PV:=(List.range n).map fun v=>.int .i64 (D v)
def eV(n:Nat)(D:Nat→Nat→Int):List PV:=(List.range n).map fun s=>.rs 1 (wE n (D s))
variable{D:Nat→Nat→Int}
theorem MD{n:Nat}{D':Nat→Nat→Int}(h:∀s v,s<n→v<n→D s v=D' s v):eV n D=eV n D':=by unfold eV;apply akF;simp_all[wE,congr,akF]
theorem Xn(E:List Ed)(n B:Nat)(hn:n≤64)(hE:E.length≤4096)(hB:B≤1073741824)(h:∀y∈E,y.f<n∧y.t<n∧y.c≤B):∃D:Nat→Nat→Int,(∀s v,s<n→v<n→Pq E (B*n) s v (D s v))∧iP [.int .i64 n,.rs 3 (E.map Ed.pv)]=some (.aO [.rs 1 (eV n D),.int .i64 0]):=by
 have h':∀y∈E,y.f<n∧y.t<n∧y.c≤1073741824:=fun y hy=>⟨(h y hy).1,(h y hy).2.1,by grind⟩;have hG:=Xm E n hn hE h';have each:∀s,∃o:pj,s<n→(∃pu,DI E n s B o pu [])∧gE [.int .i64 n,.rm 3 ((MC (AN E)).map fun x=>x.1) ((MC (AN E)).map fun x=>x.2.oM),.int .i64 s]=some (.rs 3 (ea n o)):=fun s=>by
  by_cases hs:s<n
  ·grind [T0]
  ·exact⟨fun _=>none,fun h=>absurd h hs⟩
 obtain⟨o,ho⟩:=Classical.axiomOfChoice each;refine⟨fun s v=>J8 (o s v),fun s v hs hv=>?_,?_⟩
 ·obtain⟨⟨pu,hI⟩,_⟩:=ho s hs;have:=hI.done h hv;cases hl:o s v with
  |none=>rw[hl]at this;exact .inl ⟨by dsimp only;rw[hl];rfl,this⟩
  |some p=>obtain⟨L,e⟩:=p;rw[hl]at this;exact .inr ⟨L,by dsimp only;rw[hl];rfl,this.1,this.2.1,this.2.2⟩
 ·have e0:aw 3 (.rs 3 (E.map Ed.pv))=some (E.map Ed.pv):=by rfl
  have fm:(0:Int)≤(n:Int)∧(n:Int)≤(n:Int)∧n*24≤ae∧0<24∧0<1:=by grind [ae]
  have hz:((0:Int) !=0)=false:=rfl;simp only[iP,we,GY,e0,U,Xk E n hn hE h',hz,cQ,abp,Ka E hE,cD,Ko,akc,AI fm,akW];refine ba (fun k=>((n:Int),PV.rm 3 ((MC (AN E)).map fun x=>x.1) ((MC (AN E)).map fun x=>x.2.oM),(n:Int),(k:Int),tL n k (fun s=>.rs 1 (wE n fun v=>J8 (o s v))) (.rs 0 []),())) n (fun k hk rec=>?_) (fun rec=>?_) (by unfold rounds;omega) ?_
  ·unfold mw;dsimp only;have hg:decide ((k:Int)<(n:Int))=true:=by simp;omega
   have e3:aw 3 (.rs 3 (ea n (o k)))=some (ea n (o k)):=by rfl
   have e1:aw 1 (.rs 1 ((List.range n).map fun v=>PV.int .i64 (J8 (o k v))))=some ((List.range n).map fun v=>PV.int .i64 (J8 (o k v))):=by rfl
   rw[AI hg,(ho k hk).2,U,e3,U,Pp n hn,U,e1,U,AI (Ep (by rw[Mw];omega)),akc,My hk,U,aj (by omega)];simp_all[Mz,wE,J8]
  ·unfold mw;dsimp only;rw[IS (by simp),MA];rfl
  ·rw[IE];rfl
theorem Xo(E E':List Ed)(n B:Nat)(hn:n≤64)(hE:E'.length≤4096)(hB:B≤1073741824)(h:∀y∈E,y.f<n∧y.t<n∧y.c≤B)(he:∀y,y∈E↔y∈E')(hD:∀s v,s<n→v<n→Pq E (B*n) s v (D s v)):iP [.int .i64 n,.rs 3 (E'.map Ed.pv)]=some (.aO [.rs 1 (eV n D),.int .i64 0]):=by obtain⟨D',d1,d2⟩:=Xn E' n B hn hE hB fun y hy=>h y ((he y).2 hy);rw[d2,MD fun s v hs hv=>((hD s v hs hv).mem he).unique (d1 s v hs hv)]
structure Fp where
 a:Nat
 b:Nat
 c:Nat
 free:Bool
 deriving DecidableEq
def Fp.pv(p:Fp):PV:=.agg [.int .i64 p.a,.int .i64 p.b,.int .i64 p.c,.bool p.free]
theorem fp0(p:Fp):cell p.pv 0=.int .i64 p.a:=rfl
theorem fp1(p:Fp):cell p.pv 1=.int .i64 p.b:=rfl
theorem fp2(p:Fp):cell p.pv 2=.int .i64 p.c:=rfl
theorem fp3(p:Fp):cell p.pv 3=.bool p.free:=rfl
def Fp.ed(p:Fp):Ed:=⟨p.a,p.b,p.c⟩
def AO(z:Ed):List Ed→List Ed
 |[]=>[z]
 |e::r=>if z.f=e.f∧z.t=e.t then z::r else e::AO z r
def BN(a b:Nat):List Ed→Option Nat
 |[]=>none
 |e::r=>if a=e.f∧b=e.t then some e.c else BN a b r
theorem GC(a b:Nat)(z:Ed):∀m,BN a b (AO z m)=if a=z.f∧b=z.t then some z.c else BN a b m
 |[]=>rfl
 |e::r=>by
  simp only[AO];by_cases h:z.f=e.f∧z.t=e.t
  ·simp_all[AI,BN,IS]
  ·rw[IS h];simp only[BN];by_cases h2:a=e.f∧b=e.t
   ·grind
   simp_all[IS,GC]
theorem ME(z e:Ed):∀m,e∈AO z m→e=z∨e∈m
 |[],h=>by simp[AO]at h;exact .inl h
 |x::r,h=>by
  simp only[AO]at h;split at h
  ·rcases ake.1 h with h|h
   ·exact .inl h
   ·exact .inr (by simp[h])
  ·rcases ake.1 h with h|h
   ·exact .inr (by simp[h])
   ·rcases ME z e r h with h|h
    ·exact .inl h
    ·exact .inr (by simp[h])
theorem MF{a b x:Nat}:∀{m:List Ed},BN a b m=some x→∃e∈m,e.f=a∧e.t=b∧e.c=x
 |[],h=>by cases h
 |e::r,h=>by
  simp only[BN]at h;split at h
  ·simp_all
  simp_all[MF]
theorem MG(z:Ed):∀m,(AO z m).length≤m.length+1
 |[]=>by simp[AO]
 |e::r=>by
  simp only[AO];split
  ·simp
  ·have:=MG z r;simp;omega
def Rn(fr:Bool)(m:List Ed)(p:Fp):List Ed:=if(fr&& !p.free)=true then m else match BN p.a p.b m with
 |none=>AO p.ed m
 |some x=>if p.c<x then AO p.ed m else m
def nj(fr:Bool)(l:List Fp):List Ed:=l.foldl (Rn fr) []
theorem II(fr:Bool)(l:List Fp)(p:Fp):nj fr (l++[p])=Rn fr (nj fr l) p:=by simp[nj]
def counted(fr:Bool)(l:List Fp):List Ed:=(l.filter fun p=> !(fr&& !p.free)).map Fp.ed
theorem Rp(fr:Bool)(l:List Fp):(∀e∈nj fr l,e∈counted fr l)∧(∀e∈counted fr l,∃x,BN e.f e.t (nj fr l)=some x∧x≤e.c)∧(nj fr l).length≤l.length:=by
 rw[←amj l];induction l.reverse with
 |nil=>simp[nj,counted,akk]
 |cons p l ih=>
  rw[List.reverse_cons,II];obtain⟨i1,i2,i3⟩:=ih;have hc:counted fr (l.reverse++[p])=counted fr l.reverse++(if(fr&& !p.free)=true then[]else[p.ed]):=by unfold counted;grind
  rw[hc];unfold Rn;by_cases h:(fr&& !p.free)=true
  ·grind
  ·rw[IS h,IS h];have put:(∀e∈AO p.ed (nj fr l.reverse),e∈counted fr l.reverse++[p.ed]):=fun e he=>by
    rcases ME _ _ _ he with rfl|he
    ·simp
    simp_all
   have len:(AO p.ed (nj fr l.reverse)).length≤(l.reverse++[p]).length:=by grind [MG,nj]
   cases hb:BN p.a p.b (nj fr l.reverse)with
   |none=>
    refine⟨put,fun e he=>?_,len⟩;rw[GC];by_cases hk:e.f=p.ed.f∧e.t=p.ed.t
    ·rw[AI hk];rcases aku.1 he with he|he
     ·obtain⟨x,h1,_⟩:=i2 e he;rw[hk.1,hk.2]at h1;rw[show p.ed.f=p.a from rfl,show p.ed.t=p.b from rfl,hb]at h1;cases h1
     simp_all
    grind
   |some x=>
    dsimp only;by_cases hx:p.c<x
    ·rw[AI hx];refine⟨put,fun e he=>?_,len⟩;rw[GC];by_cases hk:e.f=p.ed.f∧e.t=p.ed.t
     ·rw[AI hk];rcases aku.1 he with he|he
      ·obtain⟨y,h1,h2⟩:=i2 e he;rw[hk.1,hk.2,show p.ed.f=p.a from rfl,show p.ed.t=p.b from rfl,hb]at h1;cases h1;exact⟨_,rfl,by show p.c≤e.c;omega⟩
      simp_all
     grind
    ·rw[IS hx];refine⟨fun e he=>List.mem_append_left _ (i1 e he),fun e he=>?_,by simp at i3⊢;omega⟩;rcases aku.1 he with he|he
     ·exact i2 e he
     ·simp at he;subst he;exact⟨x,hb,by show x≤p.c;omega⟩
def oi(e:Ed):PV×PV:=(.agg [.int .i64 e.f,.int .i64 e.t,.bool false],.int .i64 e.c)
theorem afQ(a b c d:Nat):cu (PV.agg [.int .i64 a,.int .i64 b,.bool false]).cells (PV.agg [.int .i64 c,.int .i64 d,.bool false]).cells=decide (a=c∧b=d):=by
 have h:∀x y:Nat,((x:Int)==(y:Int))=decide (x=y):=fun x y=>by grind
 simp only[PV.cells,cu,peq,aln,h,beq_self_eq_true,Bool.decide_and]
theorem acv(a b:Nat):∀m:List Ed,b9 (.agg [.int .i64 a,.int .i64 b,.bool false]) (.int .i64 0) (m.map oi)=.int .i64 (((BN a b m).getD 0:Nat):Int)∧th (.agg [.int .i64 a,.int .i64 b,.bool false]) (m.map oi)=(BN a b m).isSome
 |[]=>⟨rfl,rfl⟩
 |e::r=>by obtain⟨h1,h2⟩:=acv a b r;simp only[akn,oi,b9,th,afQ,BN];grind
theorem adM(z:Ed):∀m:List Ed,dh (.agg [.int .i64 z.f,.int .i64 z.t,.bool false]) (.int .i64 z.c) (m.map oi)=(AO z m).map oi
 |[]=>rfl
 |e::r=>by
  have ih:=adM z r;simp only[akn,dh,AO];rw[show(oi e)=(PV.agg [.int .i64 e.f,.int .i64 e.t,.bool false],PV.int .i64 e.c)from rfl];simp only[afQ];by_cases h:z.f=e.f∧z.t=e.t
  ·simp[h,oi]
  ·simp only[h,akw,cQ,abp,akn,ih];rfl
theorem E8{R:Type}{n:Nat}{g:Nat→Option R}{r:R}(hn:0<n)(h:∀i,i<n→g i=some r):tA n g=some r:=by unfold tA;have hh:∃r,∀i,i<n→g i=some r:=⟨r,h⟩;rw[ank hh];grind
theorem T1{n:Nat}(hn:n≤64)(r:PV)(FU:List Ed→Prop)(rZ:∀acc,FU acc→∃D,iP [.int .i64 n,.rs 3 (acc.map Ed.pv)]=some (.aO [.rs 1 D,.int .i64 0])∧r=.rs 1 D):∀(rem acc:List Ed)(N:Nat),rem.length<N→acc.length+rem.length≤4096→(∀l,(∀y,y∈l↔y∈acc∨y∈rem)→l.length=acc.length+rem.length→FU l)→cg (eh bk) N ((n:Int),acc.map Ed.pv,rem.map oi,())=some r:=by
 intro rem;generalize hk:rem.length=k;induction k generalizing rem with
 |zero=>intro acc N hN hl hg;have:rem=[]:=akg hk;subst this;obtain⟨N,rfl⟩:∃m,N=m+1:=⟨N-1,by omega⟩;simp only[cg];unfold eh;dsimp only;rw[AI (show(List.map oi []).isEmpty=true from rfl)];obtain⟨D,h1,h2⟩:=rZ acc (hg acc (fun y=>by simp) (by simp));have e2:dn 2 (.aO [.rs 1 D,.int .i64 0])=some [.rs 1 D,.int .i64 0]:=rfl;simp_all[aw,U,ajc,aka,GY]
 |succ k ih=>
  intro acc N hN hl hg;obtain⟨N,rfl⟩:∃m,N=m+1:=⟨N-1,by omega⟩;simp only[cg];generalize q7:cg (eh bk) N=rec;unfold eh;dsimp only
  have cK:¬(rem.map oi).isEmpty=true:=by cases rem with
   |nil=>simp at hk
   |cons _ _=>simp
  rw[IS cK];refine E8 (by simp;omega) fun i hi=>?_;have qV:i<rem.length:=by simpa using hi
  obtain⟨e,he⟩:∃e,rem[i]?=some e:=⟨_,cN qV⟩;have G8:(rem.map oi)[i]?=some (oi e):=by simp_all
  have fm:(acc.map Ed.pv++[PV.agg [.int .i64 e.f,.int .i64 e.t,.int .i64 e.c]]).length*24≤ae∧0<24:=by grind [List.length_append,List.length_map,List.length_cons,List.length_nil,ae]
  have G7:acc.map Ed.pv++[PV.agg [.int .i64 e.f,.int .i64 e.t,.int .i64 e.c]]=(acc++[e]).map Ed.pv:=by simp[Ed.pv]
  have adN:(rem.map oi).eraseIdx i=(rem.eraseIdx i).map oi:=by apply aks;grind
  have hle:(rem.eraseIdx i).length=k:=by grind
  rw[G8,U];rw[G7]at fm;simp only[oi,ag3,afJ,adL,GY,U,G7,AI fm,adN];rw[←q7];refine ih (rem.eraseIdx i) hle (acc++[e]) N (by omega) (by simp;omega) fun l Uy St=>hg l (fun y=>?_) (by rw[St];simp;omega);rw[Uy];have bW:y∈rem↔y=e∨y∈rem.eraseIdx i:=by
   rw[List.mem_eraseIdx_iff_getElem?];constructor
   ·grind [List.getElem?_of_mem,Option.some.inj]
   grind
  grind
theorem J6.leq{E E':List Ed}(h:∀e∈E,∃e'∈E',e'.f=e.f∧e'.t=e.t∧e'.c≤e.c){s v L:Nat}(hr:J6 E s v L):∃L',L'≤L∧J6 E' s v L':=by
 rcases hr with⟨h1,h2⟩|hr
 ·exact⟨L,akk _,.inl ⟨h1,h2⟩⟩
 ·obtain⟨L',l1,l2⟩:=hr.leq (w':=ew E') fun i j c hc=>by
   obtain⟨e',m,e1,e2,e3⟩:=h _ hc;refine⟨e'.c,e3,?_⟩;unfold ew;have:(⟨i,j,e'.c⟩:Ed)=e':=by have e1:e'.f=i:=e1;have e2:e'.t=j:=e2;rw[←e1,←e2]
   rw[this];omega
  exact⟨L',l1,.inr l2⟩
theorem Xp{fr:Bool}{l:List Fp}{M s v:Nat}{d:Int}(h:Pq (nj fr l) M s v d):Pq (counted fr l) M s v d:=by
 obtain⟨b1,b2,_⟩:=Rp fr l;have low:∀{L},J6 (counted fr l) s v L→∃L',L'≤L∧J6 (nj fr l) s v L':=fun hr=>hr.leq fun e he=>by grind [MF]
 rcases h with⟨e,h1⟩|⟨L,e,hM,h1,h2⟩
 ·refine .inl ⟨e,fun L hL=>?_⟩;simp_all
 ·refine .inr ⟨L,e,hM,h1.mem b1,fun L' hL=>?_⟩;grind
theorem yD{fr:Bool}{l:List Fp}{e:Ed}(h:e∈counted fr l):∃p∈l,p.ed=e:=by unfold counted at h;grind
theorem Rq(l:List Fp)(n B:Nat)(hn:n≤64)(hl:l.length≤4096)(hB:B≤1073741824)(h:∀p∈l,p.a<n∧p.b<n∧p.c≤B)(fr:Bool):∃D:Nat→Nat→Int,(∀s v,s<n→v<n→Pq (counted fr l) (B*n) s v (D s v))∧eN [.rs 4 (l.map Fp.pv),.int .i64 n,.bool fr]=some (.rs 1 (eV n D)):=by
 obtain⟨b1,b2,b3⟩:=Rp fr l;have hbe:∀y∈nj fr l,y.f<n∧y.t<n∧y.c≤B:=fun y hy=>by obtain⟨p,hp,rfl⟩:=yD (b1 y hy);exact h p hp
 obtain⟨D,d1,d2⟩:=Xn (nj fr l) n B hn (by omega) hB hbe;refine⟨D,fun s v hs hv=>Xp (d1 s v hs hv),?_⟩;have e0:aw 4 (.rs 4 (l.map Fp.pv))=some (l.map Fp.pv):=by rfl
 simp only[eN,mR,e0,U,GY,asBool];refine ba (fun k=>((n:Int),fr,l.map Fp.pv,((l.map Fp.pv).length:Int),(k:Int),(nj fr (l.take k)).map oi,())) l.length (fun k hk rec=>?_) (fun rec=>?_) (by unfold rounds;omega) (by rfl)
 ·unfold jO;dsimp only;have hg:decide ((k:Int)<((l.map Fp.pv).length:Int))=true:=by simp;omega
  obtain⟨p,hp⟩:∃p,l[k]?=some p:=⟨_,cN hk⟩;have G8:(l.map Fp.pv)[k]?=some p.pv:=by simp_all
  have htk:l.take (k+1)=l.take k++[p]:=by rw[amD,hp];rfl
  have hr7:(bif fr then(asBool (cell p.pv 3)).bind fun b6=>some !b6 else some false)=some (fr&& !p.free):=by rw[fp3];cases fr<;>rfl
  obtain⟨g1,g2⟩:=acv p.a p.b (nj fr (l.take k));rw[AI hg,aM,G8,U,hr7,U,aj (by omega),htk,II];unfold Rn;by_cases hf:(fr&& !p.free)=true
  ·simp_all
  ·rw[IS hf,IS hf];simp only[fp0,fp1,fp2,GY,U,g1,g2];cases hb:BN p.a p.b (nj fr (l.take k))with
   |none=>simp only[amw,akz,cond_true,U,Ko];rw[show(p.c:Int)=((p.ed.c:Nat):Int)from rfl,show(p.a:Int)=((p.ed.f:Nat):Int)from rfl,show(p.b:Int)=((p.ed.t:Nat):Int)from rfl,adM]
   |some x=>
    simp only[amy,akf,cond_false,U,ak2];by_cases hx:p.c<x
    ·have hd:decide ((p.c:Int)<(x:Int))=true:=by simp;omega
     simp only[hd,Ko,AI hx];rw[show(p.c:Int)=((p.ed.c:Nat):Int)from rfl,show(p.a:Int)=((p.ed.f:Nat):Int)from rfl,show(p.b:Int)=((p.ed.t:Nat):Int)from rfl,adM]
    grind
 ·unfold jO;dsimp only;have Uy:((nj fr (l.take l.length)).map oi).length≤maxLen:=by grind [List.take_length,List.length_map,maxLen,decide]
  have fm:(0:Int)≤0∧0≤((((nj fr (l.take l.length)).map oi).length:Nat):Int)∧((((nj fr (l.take l.length)).map oi).length:Nat):Int).toNat*24≤ae∧0<24∧0<3:=by grind [Int.toNat_natCast,List.take_length,List.length_map,ae]
  rw[IS (by simp),AI Uy,AI fm,alg,mb];have hp:=T1 hn (.rs 1 (eV n D)) (fun acc=>(∀y,y∈nj fr l↔y∈acc)∧acc.length≤4096) (fun acc⟨h1,h2⟩=>⟨_,Xo (nj fr l) acc n B hn h2 hB hbe h1 d1,rfl⟩) (nj fr l) [] rounds (by unfold rounds;omega) (by simp;omega) (fun l' h1 h2=>⟨fun y=>by rw[h1];simp,by rw[h2];simp;omega⟩);exact hp
abbrev Mx:=Nat→Nat→Nat
def Kb(d:Mx)(i j x:Nat):Mx:=fun a b=>if a=i∧b=j then x else d a b
def dj(k i:Nat)(d:Mx):Nat→Mx
 |0=>d
 |j+1=>Kb (dj k i d j) i j (min (dj k i d j i j) (dj k i d j i k+dj k i d j k j))
def di(n k:Nat)(d:Mx):Nat→Mx
 |0=>d
 |i+1=>dj k i (di n k d i) n
def dk(n:Nat)(d:Mx):Nat→Mx
 |0=>d
 |k+1=>di n k (dk n d k) n
structure T2(w:Nat→Nat→Nat→Prop)(inf n k i j:Nat)(d:Mx):Prop where
 fw:Fw w inf n d
 nf:∀a b,a<n→b<n→sY w k a b (d a b)
 new:∀a b,a<n→b<n→(a<i∨(a=i∧b<j))→sY w (k+1) a b (d a b)
variable {w:Nat→Nat→Nat→Prop} {inf n:Nat}
theorem sY.le{k i j x y:Nat}(h:sY w k i j x)(hy:y≤x):sY w k i j y:=fun L hL=>akT hy (h L hL)
theorem T2.cell{k i j:Nat}{d:Mx}(h:T2 w inf n k i j d)(hi:i<n)(hj:j<n)(hk:k<n):T2 w inf n k i (j+1) (Kb d i j (min (d i j) (d i k+d k j))):=by
 obtain⟨h1,h2,h3⟩:=abd h.fw hi hj hk (x:=min (d i j) (d i k+d k j)) rfl (d':=Kb d i j (min (d i j) (d i k+d k j))) (fun a b=>rfl);refine⟨h1,fun a b ha hb=>(h.nf a b ha hb).le (h2 a b),fun a b ha hb hd=>?_⟩;by_cases e:a=i∧b=j
 ·obtain⟨rfl,rfl⟩:=e;exact h3 (h.nf _ _ ha hk) (h.nf _ _ hk hb) (h.nf _ _ ha hb)
 ·exact(h.new a b ha hb (by omega)).le (h2 a b)
theorem T2.row{k i:Nat}{d:Mx}(h:T2 w inf n k i 0 d)(hi:i<n)(hk:k<n):∀j,j≤n→T2 w inf n k i j (dj k i d j)
 |0,_=>h
 |j+1,hj=>(T2.row h hi hk j (by omega)).cell hi (by omega) hk
theorem T2.rows{k:Nat}{d:Mx}(h:T2 w inf n k 0 0 d)(hk:k<n):∀i,i≤n→T2 w inf n k i 0 (di n k d i)
 |0,_=>h
 |i+1,hi=>by have:=(T2.rows h hk i (by omega)).row (by omega) hk n (akk _);exact⟨this.fw,this.nf,fun a b ha hb hd=>this.new a b ha hb (by omega)⟩
structure Xq(w:Nat→Nat→Nat→Prop)(inf n k:Nat)(d:Mx):Prop where
 fw:Fw w inf n d
 low:∀a b,a<n→b<n→sY w k a b (d a b)
theorem Xq.rounds{d:Mx}(h:Xq w inf n 0 d):∀k,k≤n→Xq w inf n k (dk n d k)
 |0,_=>h
 |k+1,hk=>by have ih:=Xq.rounds h k (by omega);have:=T2.rows (k:=k) ⟨ih.fw,ih.low,fun a b ha hb hd=>by omega⟩ (by omega) n (akk _);exact⟨this.fw,fun a b ha hb=>this.new a b ha hb (.inl ha)⟩
def Rr(inf:Nat):Mx:=fun _ _=>inf
def lay(d:Mx)(e:Ed):Mx:=Kb d e.f e.t (min (d e.f e.t) e.c)
def start(inf:Nat)(E:List Ed):Mx:=E.foldl lay (Rr inf)
theorem GD(inf:Nat)(E:List Ed)(e:Ed):start inf (E++[e])=lay (start inf E) e:=by simp[start]
theorem F4(E:List Ed):(∀i j,start inf E i j≤inf)∧(∀i j,start inf E i j<inf→(⟨i,j,start inf E i j⟩:Ed)∈E)∧∀e∈E,start inf E e.f e.t≤e.c:=by
 rw[←amj E];induction E.reverse with
 |nil=>simp[akk,start,Rr]
 |cons e l ih=>
  rw[List.reverse_cons,GD];obtain⟨i1,i2,i3⟩:=ih;have hl:∀a b,lay (start inf l.reverse) e a b=if a=e.f∧b=e.t then min (start inf l.reverse e.f e.t) e.c else start inf l.reverse a b:=fun a b=>rfl;refine⟨fun a b=>?_,fun a b h=>?_,fun z hz=>?_⟩
  ·grind
  ·rw[hl]at h⊢;split
   ·rename_i hk;rw[AI hk]at h;by_cases hm:start inf l.reverse e.f e.t≤e.c
    ·simp_all
    ·rw[show min (start inf l.reverse e.f e.t) e.c=e.c by omega,hk.1,hk.2];simp
   simp_all
  grind
theorem GF(E:List Ed):Xq (ew E) inf n 0 (start inf E):=by obtain⟨h1,h2,h3⟩:=F4 (inf:=inf) E;exact⟨⟨fun i j _ _=>h1 i j,fun i j _ _ h=>.GA (h2 i j h)⟩,fun a b _ _ L hL=>h3 ⟨a,b,L⟩ hL⟩
theorem abi{E:List Ed}{M:Nat}(hE:∀y∈E,y.f<n∧y.t<n)(hM:M<inf){i j:Nat}(hi:i<n)(hj:j<n)(Uu:i≠j){D:Int}(hD:Pq E M i j D):(D= -1∧dk n (start inf E) n i j=inf)∨(D=(dk n (start inf E) n i j:Int)∧dk n (start inf E) n i j≤M):=by
 have hd:=(GF (n:=n) (inf:=inf) E).rounds n (akk _);have rch:∀L,J6 E i j L↔lS (ew E) i j L:=fun L=>⟨fun h=>by rcases h with⟨h,_⟩|h;exact absurd h.symm Uu;omega,.inr⟩;have hs:=abe (w:=ew E) (fun a b c h=>(hE _ h).1) hd.fw hi hj (hd.low i j hi hj) (fun L aeT hw=>by
  rcases hD with⟨_,h⟩|⟨L',_,hle,h1,h2⟩
  ·simp_all
  grind)
 rcases hD with⟨e,h⟩|⟨L',e,hle,h1,h2⟩
 ·left;refine⟨e,?_⟩;have aj8:=hd.fw.top i j hi hj;by_cases bZ:dk n (start inf E) n i j<inf
  ·exact absurd ((rch _).2 (hd.fw.real i j hi hj bZ)) (h _)
  omega
 ·right;have:(if dk n (start inf E) n i j<inf then some (dk n (start inf E) n i j)else none)=some L':=hs.unique ⟨(rch L').1 h1,fun L'' hw=>h2 L'' ((rch L'').2 hw)⟩;simp_all
def BO(n:Nat)(r:Nat→Nat):List PV:=(List.range n).map fun j=>.int .i64 (r j)
def qx(n:Nat)(d:Mx):List PV:=(List.range n).map fun i=>.qS 1 (BO n (d i))
theorem yE(n:Nat)(d:Mx):(qx n d).length=n:=by simp[qx]
theorem vn(n:Nat)(r:Nat→Nat):(BO n r).length=n:=by simp[BO]
theorem vo{n i:Nat}(d:Mx)(h:i<n):(qx n d)[i]?=some (.qS 1 (BO n (d i))):=by simp[qx,h]
theorem yF{n j:Nat}(r:Nat→Nat)(h:j<n):(BO n r)[j]?=some (.int .i64 (r j)):=by simp[BO,h]
theorem MH{n i j:Nat}(d:Mx)(x:Nat)(hi:i<n)(hj:j<n):(qx n d).set i (.qS 1 ((BO n (d i)).set j (.int .i64 x)))=qx n (Kb d i j x):=by
 apply aks;intro a;rw[akQ];by_cases e:i=a
 ·subst e;rw[AI rfl,AI (by rw[yE];omega),vo _ hi];congr 2;apply aks;intro b;rw[akQ];by_cases e:j=b
  ·subst e;rw[AI rfl,AI (by rw[vn];omega),yF _ hj];simp[Kb]
  ·rw[IS e];by_cases hb:b<n
   ·simp_all[yF,Kb,Ne.symm]
   simp_all[alv,vn]
 ·rw[IS e];by_cases ha:a<n
  ·rw[vo _ ha,vo _ ha];simp_all[congr,BO,akF,Kb,Ne.symm]
  simp_all[alv,yE]
theorem asR(es:List PV):fi 1 (cell (.qS 1 es) 0)=some es:=rfl
theorem cI(x:Int):cell (.int .i64 x) 0=.int .i64 x:=rfl
theorem afR(e p:PV):setRow 1 e 0 p=p:=rfl
theorem afS(q p:PV):setCells 1 q 0 1 p=p:=rfl
theorem abj(a b:Nat)(hb:b≤4398046511104):(if IntKind.i64.wrap (b:Int)<(a:Int)then IntKind.i64.wrap (b:Int)else(a:Int))=((min a b:Nat):Int):=by grind [aY]
theorem adO(zZ:Int×Int×Int×List PV×Unit→Option PV)(n k i:Nat)(d:Mx)(hn:n≤64)(hk:k<n)(hi:i<n)(hd:∀j,j≤n→∀a b,a<n→b<n→dj k i d j a b≤1099511627776):bk.run (j6 zZ) ((n:Int),(k:Int),(i:Int),0,qx n d,())=zZ ((n:Int),(k:Int),IntKind.i64.wrap ((i:Int)+1),qx n (dj k i d n),()):=by
 refine ba (fun j=>((n:Int),(k:Int),(i:Int),(j:Int),qx n (dj k i d j),())) n (fun j hj rec=>?_) (fun rec=>?_) (by unfold rounds;omega) rfl
 ·unfold j6;dsimp only;have hg:decide ((j:Int)<(n:Int))=true:=by simp;omega
  have ii:an (i:Int) (qx n (dj k i d j)).length:=Ep (by rw[yE];omega);have ik:an (k:Int) (qx n (dj k i d j)).length:=Ep (by rw[yE];omega);have ji:an (j:Int) (BO n (dj k i d j i)).length:=Ep (by rw[vn];omega);have ki:an (k:Int) (BO n (dj k i d j i)).length:=Ep (by rw[vn];omega);have jk:an (j:Int) (BO n (dj k i d j k)).length:=Ep (by rw[vn];omega);have b1:=hd j (by omega) i k hi hk;have b2:=hd j (by omega) k j hk hj;have hs:(((dj k i d j i k:Nat):Int)+((dj k i d j k j:Nat):Int))=((dj k i d j i k+dj k i d j k j:Nat):Int):=by omega
  simp only[hg,Ko,AI ii,AI ik,akc,vo _ hi,vo _ hk,U,asR,AI ji,AI ki,AI jk,yF _ hj,yF _ hk,cI,GY,afR,afS,hs,abj _ _ (show dj k i d j i k+dj k i d j k j≤4398046511104 by omega),MH _ _ hi hj,aj (show j<9223372036854775807 by omega)];rfl
 simp[j6,IS]
theorem adP(Rt:Int×Int×List PV×Unit→Option PV)(n k:Nat)(d:Mx)(hn:n≤64)(hk:k<n)(hd:∀i,i<n→∀j,j≤n→∀a b,a<n→b<n→dj k i (di n k d i) j a b≤1099511627776):bk.run (j7 bk Rt) ((n:Int),(k:Int),0,qx n d,())=Rt ((n:Int),IntKind.i64.wrap ((k:Int)+1),qx n (di n k d n),()):=by
 refine ba (fun i=>((n:Int),(k:Int),(i:Int),qx n (di n k d i),())) n (fun i hi rec=>?_) (fun rec=>?_) (by unfold rounds;omega) rfl
 ·unfold j7;dsimp only;have hg:decide ((i:Int)<(n:Int))=true:=by simp;omega
  rw[AI hg,adO rec n k i _ hn hk hi (hd i hi),aj (by omega)];rfl
 simp[j7,IS]
theorem adQ(n:Nat)(d:Mx)(hn:n≤64)(hd:∀k,k<n→∀i,i<n→∀j,j≤n→∀a b,a<n→b<n→dj k i (di n k (dk n d k) i) j a b≤1099511627776):bk.run (j8 bk) ((n:Int),0,qx n d,())=some (.rs 1 ((qx n (dk n d n)).map PV.strip)):=by
 refine ba (fun k=>((n:Int),(k:Int),qx n (dk n d k),())) n (fun k hk rec=>?_) (fun rec=>?_) (by unfold rounds;omega) rfl
 ·unfold j8;dsimp only;have hg:decide ((k:Int)<(n:Int))=true:=by simp;omega
  rw[AI hg,adP rec n k _ hn hk (hd k hk),aj (by omega)];rfl
 simp[j8,IS]
abbrev BP:Nat:=1099511627776
theorem T3(n:Nat):List.replicate n (PV.qS 1 (List.replicate n (PV.int .i64 1099511627776)))=qx n (Rr BP):=by
 unfold qx BO Rr;apply aks;intro i;by_cases hi:i<n
 ·have:(List.range n).map (fun j=>PV.int .i64 ((BP:Nat):Int))=List.replicate n (PV.int .i64 1099511627776):=by apply aks;grind
  simp_all
 simp_all
theorem T5(n:Nat)(d:Mx):(qx n d).map PV.strip=eV n fun i j=>((d i j:Nat):Int):=by unfold qx eV BO wE;rw[al5];rfl
theorem Xr(a b:Nat):(if(b:Int)<(a:Int)then(b:Int)else(a:Int))=((min a b:Nat):Int):=by omega
theorem Kc(fr:Bool)(l:List Fp)(p:Fp):counted fr (l++[p])=if(fr&& !p.free)=true then counted fr l else counted fr l++[p.ed]:=by unfold counted;grind
theorem BQ(l:List Fp)(n:Nat)(hn:n≤64)(hl:l.length≤4096)(h:∀p∈l,p.a<n∧p.b<n)(fr:Bool):lx [.rs 4 (l.map Fp.pv),.int .i64 n,.bool fr]=some (.rs 1 (eV n fun i j=>((dk n (start BP (counted fr l)) n i j:Nat):Int))):=by
 have e0:aw 4 (.rs 4 (l.map Fp.pv))=some (l.map Fp.pv):=by rfl
 have hE:∀y∈counted fr l,y.f<n∧y.t<n:=fun y hy=>by obtain⟨p,hp,rfl⟩:=yD hy;exact h p hp
 simp only[lx,yG,e0,U,GY,asBool];refine ba (fun i=>(l.map Fp.pv,(n:Int),fr,(i:Int),List.replicate i (PV.qS 1 (List.replicate n (PV.int .i64 1099511627776))),())) n (fun i hi rec=>?_) (fun rec=>?_) (by unfold rounds;omega) rfl
 ·unfold oq;dsimp only;have hg:decide ((i:Int)<(n:Int))=true:=by simp;omega
  rw[AI hg];refine ba (fun j=>(l.map Fp.pv,(n:Int),fr,(i:Int),(j:Int),List.replicate i (PV.qS 1 (List.replicate n (PV.int .i64 1099511627776))),List.replicate j (PV.int .i64 1099511627776),())) n (fun j hj adR=>?_) (fun adR=>?_) (by unfold rounds;omega) rfl
  ·unfold ot;dsimp only;have hg:decide ((j:Int)<(n:Int))=true:=by simp;omega
   have G7:List.replicate j (PV.int .i64 1099511627776)++[PV.int .i64 1099511627776]=List.replicate (j+1) (PV.int .i64 1099511627776):=(am0 ..).symm;rw[AI hg];simp only[G7,akW];rw[AI (by unfold ae;omega),aj (by omega)]
  ·unfold ot;dsimp only;have G7:List.replicate i (PV.qS 1 (List.replicate n (PV.int .i64 1099511627776)))++[PV.qS 1 (List.replicate n (PV.int .i64 1099511627776))]=List.replicate (i+1) (PV.qS 1 (List.replicate n (PV.int .i64 1099511627776))):=(am0 ..).symm;rw[IS (by simp)];simp only[G7,akW];rw[AI (by unfold ae;omega),aj (by omega)]
 ·unfold oq;dsimp only;rw[IS (by simp),T3];refine ba (fun k=>(l.map Fp.pv,(n:Int),fr,(k:Int),qx n (start BP (counted fr (l.take k))),())) l.length (fun k hk adR=>?_) (fun adR=>?_) (by unfold rounds;omega) rfl
  ·unfold ou;dsimp only;have hg:decide ((k:Int)<((l.map Fp.pv).length:Int))=true:=by simp;omega
   obtain⟨p,hp⟩:∃p,l[k]?=some p:=⟨_,cN hk⟩;have G8:(l.map Fp.pv)[k]?=some p.pv:=by simp_all
   have htk:l.take (k+1)=l.take k++[p]:=by rw[amD,hp];rfl
   obtain⟨pa,pb⟩:=h p (aeB hp);have hr:(bif p.free then some true else some !fr)=some (!(fr&& !p.free)):=by grind
   rw[AI hg,aM,G8,U,htk,Kc];simp only[fp3,asBool,U,hr];cases hb:(fr&& !p.free)with
   |true=>simp only[akf,cQ,abp,Ko,aj (show k<9223372036854775807 by omega)]
   |false=>
    obtain⟨d,hd⟩:∃d,d=start BP (counted fr (l.take k)):=⟨_,rfl⟩;have ia:an (p.a:Int) (qx n d).length:=Ep (by rw[yE];omega);have ib:an (p.b:Int) (BO n (d p.a)).length:=Ep (by rw[vn];omega);have vp:qx n (start BP (counted fr (l.take k)++[p.ed]))=qx n (Kb d p.a p.b (min (d p.a p.b) p.c)):=by rw[GD,←hd];rfl
    simp only[akz,Ko,cQ,abp,vp,←hd,fp0,fp1,fp2,GY,U,AI ia,akc,vo _ pa,asR,AI ib,yF _ pb,cI,afR,afS,Xr,MH _ _ pa pb,aj (show k<9223372036854775807 by omega)]
  ·unfold ou;dsimp only;rw[IS (by simp),alg,←T5];have afT:=GF (n:=n) (inf:=BP) (counted fr l);exact adQ n _ hn fun k hk i hi j hj a b ha hb=>by have ih:=afT.rounds k (by omega);have:=(T2.rows (k:=k) ⟨ih.fw,ih.low,fun a b ha hb hd=>by omega⟩ hk i (by omega)).row hi hk j hj;exact this.fw.top a b ha hb
def Zw(i k:Nat)(s:Int)(b:Bool):PV:=.agg [.int .i64 i,.int .i64 k,.int .i64 s,.bool b]
def DZ(w f:Int)(i k:Nat):List PV:=if i=k∨w>14400 then[]else Zw i k w (f==w)::(if f>w∧f≤14400 then[Zw i k f true]else[])
def yH(n:Nat)(it:Nat→Nat→List PV)(i:Nat):List PV:=(List.range n).flatMap (it i)
def AP(n:Nat)(it:Nat→Nat→List PV)(m:Nat):List PV:=(List.range m).flatMap (yH n it)
theorem CO(n:Nat)(it:Nat→Nat→List PV)(i:Nat):yH (n+1) it i=yH n it i++it i n:=by simp[yH,al6,amp]
theorem CP(n:Nat)(it:Nat→Nat→List PV)(m:Nat):AP n it (m+1)=AP n it m++yH n it m:=by simp[AP,al6,amp]
theorem BR{it:Nat→Nat→List PV}(h:∀i k,(it i k).length≤2)(i:Nat):∀k,(yH k it i).length≤2*k
 |0=>by simp[yH]
 |k+1=>by rw[CO,ako];have:=BR h i k;have:=h i k;omega
theorem BJ{it:Nat→Nat→List PV}(h:∀i k,(it i k).length≤2)(n:Nat):∀m,(AP n it m).length≤2*n*m
 |0=>by simp[AP]
 |m+1=>by rw[CP,ako,Nat.mul_succ];have:=BJ h n m;have:=BR h m n;omega
theorem J1(w f:Int)(i k:Nat):(DZ w f i k).length≤2:=by grind [DZ]
theorem IJ{n k:Nat}(D:Nat→Int)(h:k<n):(wE n D)[k]?=some (.int .i64 (D k)):=by simp[wE,h]
theorem CQ{n i:Nat}(D:Nat→Nat→Int)(h:i<n):(eV n D)[i]?=some (.rs 1 (wE n (D i))):=by simp[eV,h]
theorem adS(es:List PV):aw 1 (cell (.rs 1 es) 0)=some es:=by rfl
theorem iX{a:List PV}(h:a.length≤16384):a.length*32≤ae∧0<32:=by unfold ae;omega
theorem Pr(Ke:adT→Option PV)(n i:Nat)(W F:Nat→Nat→Int)(hn:n≤64)(hi:i<n)(acc:List PV)(ai1:acc.length≤8192):bk.run (my bk Ke) ((n:Int),eV n W,eV n F,(i:Int),0,acc,())=Ke ((n:Int),eV n W,eV n F,IntKind.i64.wrap ((i:Int)+1),acc++yH n (fun i k=>DZ (W i k) (F i k) i k) i,()):=by
 refine ba (fun k=>((n:Int),eV n W,eV n F,(i:Int),(k:Int),acc++yH k (fun i k=>DZ (W i k) (F i k) i k) i,())) n (fun k hk rec=>?_) (fun rec=>?_) (by unfold rounds;omega) (by simp[yH])
 ·unfold my;dsimp only;have hg:decide ((k:Int)<(n:Int))=true:=by simp;omega
  rw[CO];have hlen:=BR (it:=fun i k=>DZ (W i k) (F i k) i k) (fun i k=>J1 _ _ i k) i k;generalize hA:acc++yH k (fun i k=>DZ (W i k) (F i k) i k) i=A;have hAl:A.length≤8192+128:=by grind
  rw[←akh,hA];simp only[hg,Ko,aM,CQ _ hi,U,adS,IJ _ hk,cI,GY,aj (show k<9223372036854775807 by omega)];generalize W i k=w;generalize F i k=f;by_cases Zv:i=k
  ·simp_all[DZ,AI,cond_true,U,Ko,akP]
  ·have hb:((i:Int)==(k:Int))=false:=by grind
   simp only[hb,cond_false,U];by_cases hw:w>14400
   ·simp_all[DZ,AI,akv,Ko,akP]
   ·have hr1:(A++[PV.agg [.int .i64 i,.int .i64 k,.int .i64 w,.bool (f==w)]]).length*32≤ae∧0<32:=iX (by simp;omega);simp only[hw,akw,cQ,abp,AI hr1];by_cases hf:f>w
    ·by_cases hf2:f≤14400
     ·have NP:(A++[PV.agg [.int .i64 i,.int .i64 k,.int .i64 w,.bool (f==w)]]++[PV.agg [.int .i64 i,.int .i64 k,.int .i64 f,.bool true]]).length*32≤ae∧0<32:=iX (by simp;omega);have hit:DZ w f i k=[Zw i k w (f==w),Zw i k f true]:=by simp_all[DZ,IS,AI]
      simp only[hf,hf2,akv,cond_true,U,Ko,AI NP,hit];rw[akh];rfl
     ·have hit:DZ w f i k=[Zw i k w (f==w)]:=by simp_all[DZ,IS]
      simp only[hf,hf2,akv,akw,cond_true,U,cQ,abp,hit];rfl
    ·have hit:DZ w f i k=[Zw i k w (f==w)]:=by unfold DZ;grind
     simp only[hf,akw,cond_false,U,cQ,abp,hit];rfl
 simp[my,IS]
theorem MI(n:Nat)(W F:Nat→Nat→Int)(hn:n≤64):bk.run (mz bk) ((n:Int),eV n W,eV n F,0,[],())=some (.rs 4 (AP n (fun i k=>DZ (W i k) (F i k) i k) n)):=by
 refine ba (fun i=>((n:Int),eV n W,eV n F,(i:Int),AP n (fun i k=>DZ (W i k) (F i k) i k) i,())) n (fun i hi rec=>?_) (fun rec=>?_) (by unfold rounds;omega) rfl
 ·unfold mz;dsimp only;have hg:decide ((i:Int)<(n:Int))=true:=by simp;omega
  have hlen:=BJ (it:=fun i k=>DZ (W i k) (F i k) i k) (fun i k=>J1 _ _ i k) n i;have hb:2*n*i≤2*64*64:=amd (by omega) (by omega);rw[AI hg,Pr rec n i W F hn hi _ (by omega),CP,aj (by omega)]
 simp[mz,IS]
def vg(n:Nat)(l:List Fp)(fr:Bool)(i j:Nat):Int:=((dk n (start BP (counted fr l)) n i j:Nat):Int)
theorem Ps(l:List Fp)(n:Nat)(hn:n≤64)(hl:l.length≤4096)(h:∀p∈l,p.a<n∧p.b<n):oa [.rs 4 (l.map Fp.pv),.int .i64 n]=some (.rs 4 (AP n (fun i k=>DZ (vg n l false i k) (vg n l true i k) i k) n)):=by
 have e0:aw 4 (.rs 4 (l.map Fp.pv))=some (l.map Fp.pv):=by rfl
 have e1:∀es,aw 1 (.rs 1 es)=some es:=fun es=>by rfl
 simp only[oa,BS,e0,U,GY,BQ l n hn hl h false,BQ l n hn hl h true,e1];simp_all[MI,vg]
def Ni(w f:Int)(i k:Nat):List PV:=if i=k then[]else(if 0<w∧w≤14400 then[Zw i k w (f==w)]else[])++(if f≠w∧0<f∧f≤14400 then[Zw i k f true]else[])
theorem lS.pos{w:Nat→Nat→Nat→Prop}(h:∀i j c,w i j c→1≤c){i j L:Nat}(hw:lS w i j L):1≤L:=by
 cases hw with
 |GA e=>exact h _ _ _ e
 |snoc _ e=>have:=h _ _ _ e;omega
def abk(M:Nat)(d w:Int):Prop:=(d= -1∧w=(BP:Int))∨(d=w∧1≤w∧w≤M)
theorem afU{M:Nat}(hM:M<BP){d0 d1 w f:Int}(h0:abk M d0 w)(h1:abk M d1 f)(Zn:d1≠-1→d0≠-1∧d0≤d1)(i k:Nat):Ni d0 d1 i k=DZ w f i k:=by
 unfold Ni DZ;by_cases Zv:i=k
 ·simp_all
 ·rw[IS Zv];have hM:(M:Int)<1099511627776:=by grind
  have ai2:((BP:Nat):Int)=1099511627776:=rfl;rw[abk,ai2]at h0 h1;rcases h0 with⟨e0,w0⟩|⟨e0,w1,w2⟩
  ·simp_all
  ·subst e0;rcases h1 with⟨e1,f0⟩|⟨e1,f1,f2⟩
   ·by_cases hw:d0≤14400
    ·have b1:(d1==d0)=false:=by grind
     have b2:(f==d0)=false:=by grind
     grind
    simp_all
   grind
theorem abl{l:List Fp}{n B:Nat}(hn:n≤64)(hB:B≤1073741824)(h:∀p∈l,p.a<n∧p.b<n∧1≤p.c∧p.c≤B)(fr:Bool){i k:Nat}(hi:i<n)(hk:k<n)(Zv:i≠k){d:Int}(hd:Pq (counted fr l) (B*n) i k d):abk (B*n) d (vg n l fr i k):=by
 have hE:∀y∈counted fr l,y.f<n∧y.t<n∧1≤y.c:=fun y hy=>by obtain⟨p,hp,rfl⟩:=yD hy;obtain⟨a,b,c,_⟩:=h p hp;exact⟨a,b,c⟩
 have hM:B*n<BP:=by have:B*n≤1073741824*64:=amd hB hn;grind
 rcases abi (inf:=BP) (fun y hy=>⟨(hE y hy).1,(hE y hy).2.1⟩) hM hi hk Zv hd with⟨e1,e2⟩|⟨e1,e2⟩
 ·exact .inl ⟨e1,by unfold vg;omega⟩
 ·refine .inr ⟨e1,?_,by unfold vg;omega⟩;rcases hd with⟨e,_⟩|⟨L,e,_,hr,_⟩
  ·omega
  ·have:1≤L:=by
    rcases hr with⟨h,_⟩|hw
    ·omega
    ·exact hw.pos fun a b c hc=>(hE _ hc).2.2
   unfold vg;omega
theorem abm{l:List Fp}{M i k:Nat}{d0 d1:Int}(h0:Pq (counted false l) M i k d0)(h1:Pq (counted true l) M i k d1)(cK:d1≠-1):d0≠-1∧d0≤d1:=by
 have sub:∀y,y∈counted true l→y∈counted false l:=fun y hy=>by unfold counted at hy⊢;grind
 rcases h1 with⟨e,_⟩|⟨L1,e1,_,r1,_⟩
 ·omega
 ·have r:=r1.mem sub;rcases h0 with⟨_,h⟩|⟨L0,e0,_,_,m0⟩
  ·exact absurd r (h L1)
  simp_all
theorem Ru(w f:Int)(i k:Nat):(Ni w f i k).length≤2:=by grind [Ni,List.length_append]
theorem T6(Ke:TY8→Option PV)(n i:Nat)(W F:Nat→Nat→Int)(hn:n≤64)(hi:i<n)(acc:List PV)(ai1:acc.length≤8192):bk.run (gZ bk Ke) (eV n W,eV n F,(i:Int),(n:Int),(i:Int),wE n (W i),(n:Int),0,acc,())=Ke (eV n W,eV n F,(n:Int),IntKind.i64.wrap ((i:Int)+1),acc++yH n (fun i k=>Ni (W i k) (F i k) i k) i,()):=by
 refine ba (fun k=>(eV n W,eV n F,(i:Int),(n:Int),(i:Int),wE n (W i),(n:Int),(k:Int),acc++yH k (fun i k=>Ni (W i k) (F i k) i k) i,())) n (fun k hk rec=>?_) (fun rec=>?_) (by unfold rounds;omega) (by simp[yH])
 ·unfold gZ;dsimp only;have hg:decide ((k:Int)<(n:Int))=true:=by simp;omega
  rw[CO];have hlen:=BR (it:=fun i k=>Ni (W i k) (F i k) i k) (fun i k=>Ru _ _ i k) i k;generalize hA:acc++yH k (fun i k=>Ni (W i k) (F i k) i k) i=A;have hAl:A.length≤8192+128:=by grind
  rw[←akh,hA];simp only[hg,Ko,aM,IJ _ hk,CQ _ hi,U,adS,cI,GY,aj (show k<9223372036854775807 by omega)];generalize W i k=w;generalize F i k=f;by_cases Zv:i=k
  ·simp_all[Ni,AI,Ko,akP]
  ·have hb:((i:Int)==(k:Int))=false:=by grind
   have hand:∀x:Int,(bif decide (x>0)then some (decide (x≤14400))else some false)=some (decide (0<x∧x≤14400)):=fun x=>by grind
   have hr1:(A++[PV.agg [.int .i64 i,.int .i64 k,.int .i64 w,.bool (f==w)]]).length*32≤ae∧0<32:=iX (by simp;omega);have NP:(A++[PV.agg [.int .i64 i,.int .i64 k,.int .i64 w,.bool (f==w)]]++[PV.agg [.int .i64 i,.int .i64 k,.int .i64 f,.bool true]]).length*32≤ae∧0<32:=iX (by simp;omega);have ZX:(A++[PV.agg [.int .i64 i,.int .i64 k,.int .i64 f,.bool true]]).length*32≤ae∧0<32:=iX (by simp;omega);have cK:(f !=w)=decide (f≠w):=by grind
   have hit:Ni w f i k=(if 0<w∧w≤14400 then[Zw i k w (f==w)]else[])++(if f≠w∧0<f∧f≤14400 then[Zw i k f true]else[]):=IS Zv;simp only[hb,cQ,abp,hand,U,cK,AT,hit,AI hr1,AI NP,AI ZX];by_cases h1:0<w∧w≤14400
   ·by_cases h2:f≠w
    ·by_cases h3:0<f∧f≤14400
     ·rw[AI h1,AI h2,AI h3,AI h1,AI ⟨h2,h3⟩,akh];rfl
     ·rw[AI h1,AI h2,IS h3,AI h1,IS (fun h=>h3 h.2)];rfl
    ·rw[AI h1,IS h2,AI h1,IS (fun h=>h2 h.1)];rfl
   ·by_cases h2:f≠w
    ·by_cases h3:0<f∧f≤14400
     ·rw[IS h1,AI h2,AI h3,IS h1,AI ⟨h2,h3⟩];rfl
     grind
    grind
 simp[gZ,IS]
theorem Pt(n:Nat)(W F:Nat→Nat→Int)(hn:n≤64){es':List PV}(hs:xW 4 (fun c a b=>cd [a,b]) (AP n (fun i k=>Ni (W i k) (F i k) i k) n)=some es'):bk.run (hU bk) (eV n W,eV n F,(n:Int),0,[],())=some (.rs 4 es'):=by
 have hlen:∀i,i≤n→(AP n (fun i k=>Ni (W i k) (F i k) i k) i).length≤8192:=fun i hi=>by have h1:=BJ (it:=fun i k=>Ni (W i k) (F i k) i k) (fun i k=>Ru _ _ i k) n i;have hb:2*n*i≤2*64*64:=amd (by omega) (by omega);omega
 refine ba (fun i=>(eV n W,eV n F,(n:Int),(i:Int),AP n (fun i k=>Ni (W i k) (F i k) i k) i,())) n (fun i hi rec=>?_) (fun rec=>?_) (by unfold rounds;omega) rfl
 ·unfold hU;dsimp only;have hg:decide ((i:Int)<(n:Int))=true:=by simp;omega
  have hrl:((wE n (W i)).length:Int)=(n:Int):=by simp[wE]
  rw[AI hg,aM,CQ _ hi,U,adS,U,hrl,T6 rec n i W F hn hi _ (hlen i (by omega)),CP,aj (by omega)]
 ·unfold hU;dsimp only;have h:=hlen n (akk _);rw[IS (by simp),AI (by(first|refine⟨rfl,?_,rfl⟩|refine⟨rfl,?_⟩);unfold ae;omega),hs];rfl
def kI:PV→Int
 |.int _ n=>n
 |_=>0
def c3(x y:Int):Int:=if x<y then-1 else if x>y then 1 else 0
def or3(a b c:Int):Int:=if a≠0 then a else if b≠0 then b else c
def cfp(a b:List PV):Int:=or3 (c3 (kI (a.getD 0 .bad)) (kI (b.getD 0 .bad))) (c3 (kI (a.getD 1 .bad)) (kI (b.getD 1 .bad))) (c3 (kI (a.getD 2 .bad)) (kI (b.getD 2 .bad)))
theorem Pu(x y:Int):eW [.int .i64 x,.int .i64 y]=some (.int .i64 (c3 x y)):=by
 have h:∀z:Int,¬(z !=z)=true:=fun z=>by simp
 simp only[eW,qy,GY,U,IS (h x),IS (h y),AT];unfold c3;grind
theorem afV(a b c:Int):rB [.rs 1 [.int .i64 a,.int .i64 b,.int .i64 c]]=some (.int .i64 (or3 a b c)):=by
 have e0:aw 1 (.rs 1 [.int .i64 a,.int .i64 b,.int .i64 c])=some [.int .i64 a,.int .i64 b,.int .i64 c]:=by rfl
 simp only[rB,AQ,e0,U];obtain⟨es,Kx⟩:∃es,es=[PV.int .i64 a,.int .i64 b,.int .i64 c]:=⟨_,rfl⟩;have hl:((es.length:Nat):Int)=3:=by rw[Kx];rfl
 rw[←Kx];have hb:∀(k:Nat)(x:Int),es[k]?=some (.int .i64 x)→k<3→∀rec,eC (0,es,((es.length:Nat):Int),(k:Int),()) rec=if x≠0 then some (.int .i64 x)else rec (0,es,((es.length:Nat):Int),((k+1:Nat):Int),()):=fun k x hx hk rec=>by
  unfold eC;dsimp only;have hg:decide ((k:Int)<((es.length:Nat):Int))=true:=by rw[hl];simp;omega
  rw[AI hg,aM,hx,U,cI,GY,U,aj (by omega)];simp
 have he:∀rec,eC (0,es,((es.length:Nat):Int),((3:Nat):Int),()) rec=some (.int .i64 0):=fun rec=>by unfold eC;simp_all
 have hN:rounds=18446744073709551612+1+1+1+1:=rfl;rw[mb,hN];generalize 18446744073709551612=N;show eC (0,es,((es.length:Nat):Int),((0:Nat):Int),()) _=_;rw[hb 0 a (by rw[Kx];rfl) (by omega)];unfold or3;by_cases h1:a≠0
 ·simp_all
 ·rw[IS h1,IS h1];show eC (0,es,((es.length:Nat):Int),((1:Nat):Int),()) _=_;rw[hb 1 b (by rw[Kx];rfl) (by omega)];by_cases h2:b≠0
  ·simp_all
  ·rw[IS h2,IS h2];show eC (0,es,((es.length:Nat):Int),((2:Nat):Int),()) _=_;rw[hb 2 c (by rw[Kx];rfl) (by omega)];by_cases h3:c≠0
   ·rw[AI h3]
   ·rw[IS h3];show eC (0,es,((es.length:Nat):Int),((3:Nat):Int),()) _=_;simp_all
def UE(i k:Nat)(s:Int)(b:Bool):List PV:=[.int .i64 i,.int .i64 k,.int .i64 s,.bool b]
theorem Xs(i k:Nat)(s:Int)(b:Bool)(i' k':Nat)(s':Int)(b':Bool):cd [zx (UE i k s b),zx (UE i' k' s' b')]=some (.int .i64 (cfp (UE i k s b) (UE i' k' s' b'))):=by have a:∀(w x y z:PV),asAgg 4 (.agg [w,x,y,z])=some ():=fun _ _ _ _=>rfl;have a0:∀(w x y z:PV),cell (.agg [w,x,y,z]) 0=w:=fun _ _ _ _=>rfl;have a1:∀(w x y z:PV),cell (.agg [w,x,y,z]) 1=x:=fun _ _ _ _=>rfl;have a2:∀(w x y z:PV),cell (.agg [w,x,y,z]) 2=y:=fun _ _ _ _=>rfl;have a3:∀(w x y z:PV),cell (.agg [w,x,y,z]) 3=z:=fun _ _ _ _=>rfl;simp only[cd,mS,zx,UE,a,a0,a1,a2,a3,GY,asBool,U,Pu,afV];rfl
theorem Xt(x y:Int):(c3 x y<0↔x<y)∧(c3 x y=0↔x=y):=by grind [c3]
theorem CR(i k:Nat)(s:Int)(b:Bool)(i' k':Nat)(s':Int)(b':Bool):cfp (UE i k s b) (UE i' k' s' b')<0↔i<i'∨(i=i'∧(k<k'∨(k=k'∧s<s'))):=by show or3 (c3 (i:Int) (i':Int)) (c3 (k:Int) (k':Int)) (c3 s s')<0↔_;have h1:=Xt (i:Int) (i':Int);grind [Xt,or3]
def IsF(e:List PV):Prop:=∃i k s b,e=UE i k s b
variable{ns:List (List PV)}
theorem Pv(h:ns.Pairwise fun a b=>cfp a b<0):∀a∈ns,∀b∈ns,¬cfp a b<0→¬cfp b a<0→a=b:=by
 induction h with
 |nil=>simp
 | @cons x l hx _ ih=>grind
theorem MJ(hF:∀e∈ns,IsF e)(h:ns.Pairwise fun a b=>cfp a b<0):kY 4 (fun c a b=>cd [a,b]) ns ns cfp where
 len a ha:=by obtain⟨i,k,s,b,rfl⟩:=hF a ha;rfl
 Vg a ha p hp:=by obtain⟨i,k,s,b,rfl⟩:=hF a ha;simp only[UE,ake,alk,amL]at hp;rcases hp with rfl|rfl|rfl|rfl<;>rfl
 perm:=List.Perm.refl _
 reads c _ _ a ha b hb:=by obtain⟨i,k,s,q,rfl⟩:=hF a ha;obtain⟨i',k',s',q',rfl⟩:=hF b hb;exact Xs ..
 irrefl a ha:=by obtain⟨i,k,s,q,rfl⟩:=hF a ha;rw[CR];omega
 trans a ha b hb c hc h1 h2:=by obtain⟨i,k,s,q,rfl⟩:=hF a ha;obtain⟨i',k',s',q',rfl⟩:=hF b hb;obtain⟨i2,k2,s2,q2,rfl⟩:=hF c hc;rw[CR]at*;omega
 total:=Pv h
 sorted:=h.imp_of_mem fun{a b}ha hb wG=>by obtain⟨i,k,s,q,rfl⟩:=hF a ha;obtain⟨i',k',s',q',rfl⟩:=hF b hb;rw[CR]at*;omega
def itC(w f:Int)(i k:Nat):List (List PV):=if i=k∨w>14400 then[]else UE i k w (f==w)::(if f>w∧f≤14400 then[UE i k f true]else[])
theorem abn(w f:Int)(i k:Nat):(itC w f i k).map zx=DZ w f i k:=by
 unfold itC DZ;split
 ·rfl
 ·split<;>rfl
def He(n:Nat)(W F:Nat→Nat→Int):List (List PV):=(List.range n).flatMap fun i=>(List.range n).flatMap fun k=>itC (W i k) (F i k) i k
theorem CI(n:Nat)(W F:Nat→Nat→Int):eH (He n W F)=AP n (fun i k=>DZ (W i k) (F i k) i k) n:=by unfold eH He AP yH;rw[List.map_flatMap];congr 1;funext i;rw[List.map_flatMap];congr 1;funext k;exact abn ..
theorem BT{w f:Int}{i k:Nat}{e:List PV}(h:e∈itC w f i k):∃s b,e=UE i k s b:=by unfold itC at h;grind
theorem Ml(n:Nat)(W F:Nat→Nat→Int):∀e∈He n W F,IsF e:=fun e h=>by obtain⟨i,_,h⟩:=al1.1 h;obtain⟨k,_,h⟩:=al1.1 h;obtain⟨s,b,rfl⟩:=BT h;exact⟨i,k,s,b,rfl⟩
theorem MK(n:Nat)(W F:Nat→Nat→Int):(He n W F).Pairwise fun a b=>cfp a b<0:=by
 unfold He;rw[amV];refine⟨fun i _=>?_,List.pairwise_lt_range.imp fun{i i'}hii x hx y hy=>?_⟩
 ·rw[amV];refine⟨fun k _=>?_,List.pairwise_lt_range.imp fun{k k'}AV x hx y hy=>?_⟩
  ·unfold itC;split
   ·simp
   grind [CR]
  ·obtain⟨s,b,rfl⟩:=BT hx;obtain⟨s',b',rfl⟩:=BT hy;rw[CR];omega
 ·obtain⟨k,_,hx⟩:=al1.1 hx;obtain⟨k',_,hy⟩:=al1.1 hy;obtain⟨s,b,rfl⟩:=BT hx;obtain⟨s',b',rfl⟩:=BT hy;rw[CR];omega
theorem Pd(l:List Fp)(n:Nat)(hn:n≤64)(hl:l.length≤4096)(h:∀p∈l,p.a<n∧p.b<n∧1≤p.c∧p.c≤14400):ga [.rs 4 (l.map Fp.pv),.int .i64 n]=some (.rs 4 (eH (He n (vg n l false) (vg n l true))))∧oa [.rs 4 (l.map Fp.pv),.int .i64 n]=some (.rs 4 (eH (He n (vg n l false) (vg n l true)))):=by
 have hr:=Ps l n hn hl fun p hp=>⟨(h p hp).1,(h p hp).2.1⟩;rw[←CI]at hr;refine⟨?_,hr⟩;have hB:(14400:Nat)≤1073741824:=by omega
 obtain⟨D0,d0,e0⟩:=Rq l n 14400 hn hl hB (fun p hp=>⟨(h p hp).1,(h p hp).2.1,(h p hp).2.2.2⟩) false;obtain⟨D1,d1,e1⟩:=Rq l n 14400 hn hl hB (fun p hp=>⟨(h p hp).1,(h p hp).2.1,(h p hp).2.2.2⟩) true;have hM:14400*n<BP:=by grind
 have N1:AP n (fun i k=>Ni (D0 i k) (D1 i k) i k) n=eH (He n (vg n l false) (vg n l true)):=by
  rw[CI];unfold AP yH;rw[ami,ami];congr 1;apply akF;intro i hi;rw[ami,ami];congr 1;apply akF;intro k hk;have hi:=akS.1 hi;have hk:=akS.1 hk;dsimp only;by_cases Zv:i=k
  ·simp_all[Ni,AI,DZ,vg]
  grind [afU,abl,abm]
 have a0:aw 4 (.rs 4 (l.map Fp.pv))=some (l.map Fp.pv):=by rfl
 have a1:∀es,aw 1 (.rs 1 es)=some es:=fun es=>by rfl
 have hlen:((eV n D0).length:Int)=(n:Int):=by simp[eV]
 simp only[ga,pn,a0,GY,U,e0,e1,a1,hlen];exact Pt n D0 D1 hn (by rw[N1];exact S1 (MJ (Ml _ _ _) (MK _ _ _)))
end Go.Ab.Nw
