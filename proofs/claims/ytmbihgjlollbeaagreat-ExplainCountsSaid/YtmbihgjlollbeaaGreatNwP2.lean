import Derived.Test.YtmbihgjlollbeaaGreatNwP1
namespace Go.Ab.Nw
set_option maxRecDepth 100000
set_option linter.unusedVariables false
set_option linter.unusedSimpArgs false
def Ow(E:List Ed)(M:Nat)(s v:Nat)(d:Int):Prop:=(d= -1∧∀L,¬Jw E s v L)∨∃L:Nat,d=L∧L≤M∧Jw E s v L∧∀L',Jw E s v L'→L≤L'
theorem Ow.unique{E:List Ed}{M M' s v:Nat}{d d':Int}(h:Ow E M s v d)(h':Ow E M' s v d'):d=d':=by
 rcases h with⟨e,h⟩|⟨L,e,_,h1,h2⟩
 ·rcases h' with⟨e',_⟩|⟨L',_,_,h1',_⟩
  ·omega
  simp_all
 ·rcases h' with⟨_,h'⟩|⟨L',e',_,h1',YS⟩
  ·exact absurd h1 (h' L)
  grind
theorem Jw.mem{E E':List Ed}(h:∀y,y∈E→y∈E'){s v L:Nat}(hr:Jw E s v L):Jw E' s v L:=by
 rcases hr with hr|hr
 ·exact .inl hr
 ·exact .inr (hr.mono fun i j c hc=>h _ hc)
theorem Ow.mem{E E':List Ed}(h:∀y,y∈E↔y∈E'){M s v:Nat}{d:Int}(hd:Ow E M s v d):Ow E' M s v d:=by
 rcases hd with⟨e,h1⟩|⟨L,e,hM,h1,h2⟩
 ·exact .inl ⟨e,fun L hL=>h1 L (hL.mem fun y hy=>(h y).2 hy)⟩
 ·exact .inr ⟨L,e,hM,h1.mem fun y hy=>(h y).1 hy,fun L' hL=>h2 L' (hL.mem fun y hy=>(h y).2 hy)⟩
def vW(n:Nat)(D:Nat→Int):List PV:=(List.range n).map fun v=>.int .i64 (D v)
def eQ(n:Nat)(D:Nat→Nat→Int):List PV:=(List.range n).map fun s=>.rs 1 (vW n (D s))
variable{D:Nat→Nat→Int}
theorem LY{n:Nat}{D':Nat→Nat→Int}(h:∀s v,s<n→v<n→D s v=D' s v):eQ n D=eQ n D':=by unfold eQ;apply ajJ;simp_all[vW,congr,ajJ]
theorem We(E:List Ed)(n B:Nat)(hn:n≤64)(hE:E.length≤4096)(hB:B≤1073741824)(h:∀y∈E,y.f<n∧y.t<n∧y.c≤B):∃D:Nat→Nat→Int,(∀s v,s<n→v<n→Ow E (B*n) s v (D s v))∧iJ [.int .i64 n,.rs 3 (E.map Ed.pv)]=some (.aP [.rs 1 (eQ n D),.int .i64 0]):=by
 have h':∀y∈E,y.f<n∧y.t<n∧y.c≤1073741824:=fun y hy=>⟨(h y hy).1,(h y hy).2.1,by grind⟩;have hG:=Wd E n hn hE h';have each:∀s,∃o:oQ,s<n→(∃pu,DI E n s B o pu [])∧gy [.int .i64 n,.rm 3 ((LX (Aj E)).map fun x=>x.1) ((LX (Aj E)).map fun x=>x.2.oA),.int .i64 s]=some (.rs 3 (dV n o)):=fun s=>by
  by_cases hs:s<n
  ·grind [SR]
  ·exact⟨fun _=>none,fun h=>absurd h hs⟩
 obtain⟨o,ho⟩:=Classical.axiomOfChoice each;refine⟨fun s v=>Jy (o s v),fun s v hs hv=>?_,?_⟩
 ·obtain⟨⟨pu,hI⟩,_⟩:=ho s hs;have:=hI.done h hv;cases hl:o s v with
  |none=>rw[hl]at this;exact .inl ⟨by dsimp only;rw[hl];rfl,this⟩
  |some p=>obtain⟨L,e⟩:=p;rw[hl]at this;exact .inr ⟨L,by dsimp only;rw[hl];rfl,this.1,this.2.1,this.2.2⟩
 ·have e0:aw 3 (.rs 3 (E.map Ed.pv))=some (E.map Ed.pv):=by rfl
  have fg:(0:Int)≤(n:Int)∧(n:Int)≤(n:Int)∧n*24≤ah∧0<24∧0<1:=by grind [ah]
  have hz:((0:Int) !=0)=false:=rfl;simp only[iJ,vH,Gs,e0,aa,Wb E n hn hE h',hz,cQ,S3,JA E hE,cD,IS,ajk,GW fg,aj1];refine aZ (fun k=>((n:Int),PV.rm 3 ((LX (Aj E)).map fun x=>x.1) ((LX (Aj E)).map fun x=>x.2.oA),(n:Int),(k:Int),td n k (fun s=>.rs 1 (vW n fun v=>Jy (o s v))) (.rs 0 []),())) n (fun k hk rec=>?_) (fun rec=>?_) (by unfold rounds;omega) ?_
  ·unfold ma;dsimp only;have hg:decide ((k:Int)<(n:Int))=true:=by simp;omega
   have e3:aw 3 (.rs 3 (dV n (o k)))=some (dV n (o k)):=by rfl
   have e1:aw 1 (.rs 1 ((List.range n).map fun v=>PV.int .i64 (Jy (o k v))))=some ((List.range n).map fun v=>PV.int .i64 (Jy (o k v))):=by rfl
   rw[GW hg,(ho k hk).2,aa,e3,aa,Ov n hn,aa,e1,aa,GW (DY (by rw[LR];omega)),ajk,LS hk,aa,al (by omega)];simp_all[LU,vW,Jy]
  ·unfold ma;dsimp only;rw[No (by simp),LV];rfl
  ·rw[H7];rfl
theorem Wf(E E':List Ed)(n B:Nat)(hn:n≤64)(hE:E'.length≤4096)(hB:B≤1073741824)(h:∀y∈E,y.f<n∧y.t<n∧y.c≤B)(he:∀y,y∈E↔y∈E')(hD:∀s v,s<n→v<n→Ow E (B*n) s v (D s v)):iJ [.int .i64 n,.rs 3 (E'.map Ed.pv)]=some (.aP [.rs 1 (eQ n D),.int .i64 0]):=by obtain⟨D',d1,d2⟩:=We E' n B hn hE hB fun y hy=>h y ((he y).2 hy);rw[d2,LY fun s v hs hv=>((hD s v hs hv).mem he).unique (d1 s v hs hv)]
structure Fp where
 a:Nat
 b:Nat
 c:Nat
 free:Bool
 deriving DecidableEq
def Fp.pv(p:Fp):PV:=.agg [.int .i64 p.a,.int .i64 p.b,.int .i64 p.c,.bool p.free]
theorem fp0(p:Fp):cell p.pv 0=.int .i64 p.a:=rfl
theorem fp1(p:Fp):cell p.pv 1=.int .i64 p.b:=rfl
theorem fp2(p:Fp):cell p.pv 2=.int .i64 p.c:=rfl
theorem fp3(p:Fp):cell p.pv 3=.bool p.free:=rfl
def Fp.ed(p:Fp):Ed:=⟨p.a,p.b,p.c⟩
def Ak(z:Ed):List Ed→List Ed
 |[]=>[z]
 |e::r=>if z.f=e.f∧z.t=e.t then z::r else e::Ak z r
def Bu(a b:Nat):List Ed→Option Nat
 |[]=>none
 |e::r=>if a=e.f∧b=e.t then some e.c else Bu a b r
theorem F4(a b:Nat)(z:Ed):∀m,Bu a b (Ak z m)=if a=z.f∧b=z.t then some z.c else Bu a b m
 |[]=>rfl
 |e::r=>by
  simp only[Ak];by_cases h:z.f=e.f∧z.t=e.t
  ·simp_all[GW,Bu,No]
  ·rw[No h];simp only[Bu];by_cases h2:a=e.f∧b=e.t
   ·grind
   simp_all[No,F4]
theorem LZ(z e:Ed):∀m,e∈Ak z m→e=z∨e∈m
 |[],h=>by simp[Ak]at h;exact .inl h
 |x::r,h=>by
  simp only[Ak]at h;split at h
  ·rcases aih.1 h with h|h
   ·exact .inl h
   ·exact .inr (by simp[h])
  ·rcases aih.1 h with h|h
   ·exact .inr (by simp[h])
   ·rcases LZ z e r h with h|h
    ·exact .inl h
    ·exact .inr (by simp[h])
theorem L2{a b x:Nat}:∀{m:List Ed},Bu a b m=some x→∃e∈m,e.f=a∧e.t=b∧e.c=x
 |[],h=>by cases h
 |e::r,h=>by
  simp only[Bu]at h;split at h
  ·simp_all
  simp_all[L2]
theorem L3(z:Ed):∀m,(Ak z m).length≤m.length+1
 |[]=>by simp[Ak]
 |e::r=>by
  simp only[Ak];split
  ·simp
  ·have:=L3 z r;simp;omega
def Qj(fr:Bool)(m:List Ed)(p:Fp):List Ed:=if(fr&& !p.free)=true then m else match Bu p.a p.b m with
 |none=>Ak p.ed m
 |some x=>if p.c<x then Ak p.ed m else m
def mV(fr:Bool)(l:List Fp):List Ed:=l.foldl (Qj fr) []
theorem Ib(fr:Bool)(l:List Fp)(p:Fp):mV fr (l++[p])=Qj fr (mV fr l) p:=by simp[mV]
def counted(fr:Bool)(l:List Fp):List Ed:=(l.filter fun p=> !(fr&& !p.free)).map Fp.ed
theorem Qk(fr:Bool)(l:List Fp):(∀e∈mV fr l,e∈counted fr l)∧(∀e∈counted fr l,∃x,Bu e.f e.t (mV fr l)=some x∧x≤e.c)∧(mV fr l).length≤l.length:=by
 rw[←aln l];induction l.reverse with
 |nil=>simp[mV,counted,ajo]
 |cons p l ih=>
  rw[List.reverse_cons,Ib];obtain⟨i1,i2,i3⟩:=ih;have hc:counted fr (l.reverse++[p])=counted fr l.reverse++(if(fr&& !p.free)=true then[]else[p.ed]):=by unfold counted;grind
  rw[hc];unfold Qj;by_cases h:(fr&& !p.free)=true
  ·grind
  ·rw[No h,No h];have put:(∀e∈Ak p.ed (mV fr l.reverse),e∈counted fr l.reverse++[p.ed]):=fun e he=>by
    rcases LZ _ _ _ he with rfl|he
    ·simp
    simp_all
   have len:(Ak p.ed (mV fr l.reverse)).length≤(l.reverse++[p]).length:=by grind [L3,mV]
   cases hb:Bu p.a p.b (mV fr l.reverse)with
   |none=>
    refine⟨put,fun e he=>?_,len⟩;rw[F4];by_cases hk:e.f=p.ed.f∧e.t=p.ed.t
    ·rw[GW hk];rcases ajA.1 he with he|he
     ·obtain⟨x,h1,_⟩:=i2 e he;rw[hk.1,hk.2]at h1;rw[show p.ed.f=p.a from rfl,show p.ed.t=p.b from rfl,hb]at h1;cases h1
     simp_all
    grind
   |some x=>
    dsimp only;by_cases hx:p.c<x
    ·rw[GW hx];refine⟨put,fun e he=>?_,len⟩;rw[F4];by_cases hk:e.f=p.ed.f∧e.t=p.ed.t
     ·rw[GW hk];rcases ajA.1 he with he|he
      ·obtain⟨y,h1,h2⟩:=i2 e he;rw[hk.1,hk.2,show p.ed.f=p.a from rfl,show p.ed.t=p.b from rfl,hb]at h1;cases h1;exact⟨_,rfl,by show p.c≤e.c;omega⟩
      simp_all
     grind
    ·rw[No hx];refine⟨fun e he=>List.mem_append_left _ (i1 e he),fun e he=>?_,by simp at i3⊢;omega⟩;rcases ajA.1 he with he|he
     ·exact i2 e he
     ·simp at he;subst he;exact⟨x,hb,by show x≤p.c;omega⟩
def nW(e:Ed):PV×PV:=(.agg [.int .i64 e.f,.int .i64 e.t,.bool false],.int .i64 e.c)
theorem aeR(a b c d:Nat):cz (PV.agg [.int .i64 a,.int .i64 b,.bool false]).cells (PV.agg [.int .i64 c,.int .i64 d,.bool false]).cells=decide (a=c∧b=d):=by
 have h:∀x y:Nat,((x:Int)==(y:Int))=decide (x=y):=fun x y=>by grind
 simp only[PV.cells,cz,peq,akw,h,beq_self_eq_true,Bool.decide_and]
theorem aa7(a b:Nat):∀m:List Ed,b9 (.agg [.int .i64 a,.int .i64 b,.bool false]) (.int .i64 0) (m.map nW)=.int .i64 (((Bu a b m).getD 0:Nat):Int)∧sH (.agg [.int .i64 a,.int .i64 b,.bool false]) (m.map nW)=(Bu a b m).isSome
 |[]=>⟨rfl,rfl⟩
 |e::r=>by obtain⟨h1,h2⟩:=aa7 a b r;simp only[ajr,nW,b9,sH,aeR,Bu];grind
theorem acz(z:Ed):∀m:List Ed,df (.agg [.int .i64 z.f,.int .i64 z.t,.bool false]) (.int .i64 z.c) (m.map nW)=(Ak z m).map nW
 |[]=>rfl
 |e::r=>by
  have ih:=acz z r;simp only[ajr,df,Ak];rw[show(nW e)=(PV.agg [.int .i64 e.f,.int .i64 e.t,.bool false],PV.int .i64 e.c)from rfl];simp only[aeR];by_cases h:z.f=e.f∧z.t=e.t
  ·simp[h,nW]
  ·simp only[h,ajz,cQ,S3,ajr,ih];rfl
theorem EJ{R:Type}{n:Nat}{g:Nat→Option R}{r:R}(hn:0<n)(h:∀i,i<n→g i=some r):sW n g=some r:=by unfold sW;have hh:∃r,∀i,i<n→g i=some r:=⟨r,h⟩;rw[amj hh];grind
theorem SS{n:Nat}(hn:n≤64)(r:PV)(A3:List Ed→Prop)(rr:∀acc,A3 acc→∃D,iJ [.int .i64 n,.rs 3 (acc.map Ed.pv)]=some (.aP [.rs 1 D,.int .i64 0])∧r=.rs 1 D):∀(rem acc:List Ed)(N:Nat),rem.length<N→acc.length+rem.length≤4096→(∀l,(∀y,y∈l↔y∈acc∨y∈rem)→l.length=acc.length+rem.length→A3 l)→cA (eb bn) N ((n:Int),acc.map Ed.pv,rem.map nW,())=some r:=by
 intro rem;generalize hk:rem.length=k;induction k generalizing rem with
 |zero=>intro acc N hN hl hg;have:rem=[]:=ajl hk;subst this;obtain⟨N,rfl⟩:∃m,N=m+1:=⟨N-1,by omega⟩;simp only[cA];unfold eb;dsimp only;rw[GW (show(List.map nW []).isEmpty=true from rfl)];obtain⟨D,h1,h2⟩:=rr acc (hg acc (fun y=>by simp) (by simp));have e2:dq 2 (.aP [.rs 1 D,.int .i64 0])=some [.rs 1 D,.int .i64 0]:=rfl;simp_all[aw,aa,ajf,ajh,Gs]
 |succ k ih=>
  intro acc N hN hl hg;obtain⟨N,rfl⟩:∃m,N=m+1:=⟨N-1,by omega⟩;simp only[cA];generalize qL:cA (eb bn) N=rec;unfold eb;dsimp only
  have cJ:¬(rem.map nW).isEmpty=true:=by cases rem with
   |nil=>simp at hk
   |cons _ _=>simp
  rw[No cJ];refine EJ (by simp;omega) fun i hi=>?_;have qH:i<rem.length:=by simpa using hi
  obtain⟨e,he⟩:∃e,rem[i]?=some e:=⟨_,cO qH⟩;have GC:(rem.map nW)[i]?=some (nW e):=by simp_all
  have fg:(acc.map Ed.pv++[PV.agg [.int .i64 e.f,.int .i64 e.t,.int .i64 e.c]]).length*24≤ah∧0<24:=by grind [List.length_append,List.length_map,List.length_cons,List.length_nil,ah]
  have GB:acc.map Ed.pv++[PV.agg [.int .i64 e.f,.int .i64 e.t,.int .i64 e.c]]=(acc++[e]).map Ed.pv:=by simp[Ed.pv]
  have acA:(rem.map nW).eraseIdx i=(rem.eraseIdx i).map nW:=by apply ajw;grind
  have hle:(rem.eraseIdx i).length=k:=by grind
  rw[GC,aa];rw[GB]at fg;simp only[nW,ag3,aeK,acy,Gs,aa,GB,GW fg,acA];rw[←qL];refine ih (rem.eraseIdx i) hle (acc++[e]) N (by omega) (by simp;omega) fun l Tu Rl=>hg l (fun y=>?_) (by rw[Rl];simp;omega);rw[Tu];have bX:y∈rem↔y=e∨y∈rem.eraseIdx i:=by
   rw[List.mem_eraseIdx_iff_getElem?];constructor
   ·grind [List.getElem?_of_mem,Option.some.inj]
   grind
  grind
theorem Jw.leq{E E':List Ed}(h:∀e∈E,∃e'∈E',e'.f=e.f∧e'.t=e.t∧e'.c≤e.c){s v L:Nat}(hr:Jw E s v L):∃L',L'≤L∧Jw E' s v L':=by
 rcases hr with⟨h1,h2⟩|hr
 ·exact⟨L,ajo _,.inl ⟨h1,h2⟩⟩
 ·obtain⟨L',l1,l2⟩:=hr.leq (w':=ew E') fun i j c hc=>by
   obtain⟨e',m,e1,e2,e3⟩:=h _ hc;refine⟨e'.c,e3,?_⟩;unfold ew;have:(⟨i,j,e'.c⟩:Ed)=e':=by have e1:e'.f=i:=e1;have e2:e'.t=j:=e2;rw[←e1,←e2]
   rw[this];omega
  exact⟨L',l1,.inr l2⟩
theorem Wg{fr:Bool}{l:List Fp}{M s v:Nat}{d:Int}(h:Ow (mV fr l) M s v d):Ow (counted fr l) M s v d:=by
 obtain⟨b1,b2,_⟩:=Qk fr l;have low:∀{L},Jw (counted fr l) s v L→∃L',L'≤L∧Jw (mV fr l) s v L':=fun hr=>hr.leq fun e he=>by grind [L2]
 rcases h with⟨e,h1⟩|⟨L,e,hM,h1,h2⟩
 ·refine .inl ⟨e,fun L hL=>?_⟩;simp_all
 ·refine .inr ⟨L,e,hM,h1.mem b1,fun L' hL=>?_⟩;grind
theorem xM{fr:Bool}{l:List Fp}{e:Ed}(h:e∈counted fr l):∃p∈l,p.ed=e:=by unfold counted at h;grind
theorem Ql(l:List Fp)(n B:Nat)(hn:n≤64)(hl:l.length≤4096)(hB:B≤1073741824)(h:∀p∈l,p.a<n∧p.b<n∧p.c≤B)(fr:Bool):∃D:Nat→Nat→Int,(∀s v,s<n→v<n→Ow (counted fr l) (B*n) s v (D s v))∧eK [.rs 4 (l.map Fp.pv),.int .i64 n,.bool fr]=some (.rs 1 (eQ n D)):=by
 obtain⟨b1,b2,b3⟩:=Qk fr l;have hbe:∀y∈mV fr l,y.f<n∧y.t<n∧y.c≤B:=fun y hy=>by obtain⟨p,hp,rfl⟩:=xM (b1 y hy);exact h p hp
 obtain⟨D,d1,d2⟩:=We (mV fr l) n B hn (by omega) hB hbe;refine⟨D,fun s v hs hv=>Wg (d1 s v hs hv),?_⟩;have e0:aw 4 (.rs 4 (l.map Fp.pv))=some (l.map Fp.pv):=by rfl
 simp only[eK,mE,e0,aa,Gs,asBool];refine aZ (fun k=>((n:Int),fr,l.map Fp.pv,((l.map Fp.pv).length:Int),(k:Int),(mV fr (l.take k)).map nW,())) l.length (fun k hk rec=>?_) (fun rec=>?_) (by unfold rounds;omega) (by rfl)
 ·unfold jL;dsimp only;have hg:decide ((k:Int)<((l.map Fp.pv).length:Int))=true:=by simp;omega
  obtain⟨p,hp⟩:∃p,l[k]?=some p:=⟨_,cO hk⟩;have GC:(l.map Fp.pv)[k]?=some p.pv:=by simp_all
  have ZA:l.take (k+1)=l.take k++[p]:=by rw[alL,hp];rfl
  have hr7:(bif fr then(asBool (cell p.pv 3)).bind fun b6=>some !b6 else some false)=some (fr&& !p.free):=by rw[fp3];cases fr<;>rfl
  obtain⟨g1,g2⟩:=aa7 p.a p.b (mV fr (l.take k));rw[GW hg,aN,GC,aa,hr7,aa,al (by omega),ZA,Ib];unfold Qj;by_cases hf:(fr&& !p.free)=true
  ·simp_all
  ·rw[No hf,No hf];simp only[fp0,fp1,fp2,Gs,aa,g1,g2];cases hb:Bu p.a p.b (mV fr (l.take k))with
   |none=>simp only[alD,ajC,cond_true,aa,IS];rw[show(p.c:Int)=((p.ed.c:Nat):Int)from rfl,show(p.a:Int)=((p.ed.f:Nat):Int)from rfl,show(p.b:Int)=((p.ed.t:Nat):Int)from rfl,acz]
   |some x=>
    simp only[alC,aji,cond_false,aa,aka];by_cases hx:p.c<x
    ·have hd:decide ((p.c:Int)<(x:Int))=true:=by simp;omega
     simp only[hd,IS,GW hx];rw[show(p.c:Int)=((p.ed.c:Nat):Int)from rfl,show(p.a:Int)=((p.ed.f:Nat):Int)from rfl,show(p.b:Int)=((p.ed.t:Nat):Int)from rfl,acz]
    grind
 ·unfold jL;dsimp only;have Tu:((mV fr (l.take l.length)).map nW).length≤maxLen:=by grind [List.take_length,List.length_map,maxLen,decide]
  have fg:(0:Int)≤0∧0≤((((mV fr (l.take l.length)).map nW).length:Nat):Int)∧((((mV fr (l.take l.length)).map nW).length:Nat):Int).toNat*24≤ah∧0<24∧0<3:=by grind [Int.toNat_natCast,List.take_length,List.length_map,ah]
  rw[No (by simp),GW Tu,GW fg,ajZ,nd];have hp:=SS hn (.rs 1 (eQ n D)) (fun acc=>(∀y,y∈mV fr l↔y∈acc)∧acc.length≤4096) (fun acc⟨h1,h2⟩=>⟨_,Wf (mV fr l) acc n B hn h2 hB hbe h1 d1,rfl⟩) (mV fr l) [] rounds (by unfold rounds;omega) (by simp;omega) (fun l' h1 h2=>⟨fun y=>by rw[h1];simp,by rw[h2];simp;omega⟩);exact hp
abbrev Mx:=Nat→Nat→Nat
def JB(d:Mx)(i j x:Nat):Mx:=fun a b=>if a=i∧b=j then x else d a b
def dj(k i:Nat)(d:Mx):Nat→Mx
 |0=>d
 |j+1=>JB (dj k i d j) i j (min (dj k i d j i j) (dj k i d j i k+dj k i d j k j))
def di(n k:Nat)(d:Mx):Nat→Mx
 |0=>d
 |i+1=>dj k i (di n k d i) n
def dk(n:Nat)(d:Mx):Nat→Mx
 |0=>d
 |k+1=>di n k (dk n d k) n
structure SU(w:Nat→Nat→Nat→Prop)(inf n k i j:Nat)(d:Mx):Prop where
 fw:Fw w inf n d
 mR:∀a b,a<n→b<n→so w k a b (d a b)
 new:∀a b,a<n→b<n→(a<i∨(a=i∧b<j))→so w (k+1) a b (d a b)
variable {w:Nat→Nat→Nat→Prop} {inf n:Nat}
theorem so.le{k i j x y:Nat}(h:so w k i j x)(hy:y≤x):so w k i j y:=fun L hL=>ajQ hy (h L hL)
theorem SU.cell{k i j:Nat}{d:Mx}(h:SU w inf n k i j d)(hi:i<n)(hj:j<n)(hk:k<n):SU w inf n k i (j+1) (JB d i j (min (d i j) (d i k+d k j))):=by
 obtain⟨h1,h2,h3⟩:=ZX h.fw hi hj hk (x:=min (d i j) (d i k+d k j)) rfl (d':=JB d i j (min (d i j) (d i k+d k j))) (fun a b=>rfl);refine⟨h1,fun a b ha hb=>(h.mR a b ha hb).le (h2 a b),fun a b ha hb hd=>?_⟩;by_cases e:a=i∧b=j
 ·obtain⟨rfl,rfl⟩:=e;exact h3 (h.mR _ _ ha hk) (h.mR _ _ hk hb) (h.mR _ _ ha hb)
 ·exact(h.new a b ha hb (by omega)).le (h2 a b)
theorem SU.row{k i:Nat}{d:Mx}(h:SU w inf n k i 0 d)(hi:i<n)(hk:k<n):∀j,j≤n→SU w inf n k i j (dj k i d j)
 |0,_=>h
 |j+1,hj=>(SU.row h hi hk j (by omega)).cell hi (by omega) hk
theorem SU.rows{k:Nat}{d:Mx}(h:SU w inf n k 0 0 d)(hk:k<n):∀i,i≤n→SU w inf n k i 0 (di n k d i)
 |0,_=>h
 |i+1,hi=>by have:=(SU.rows h hk i (by omega)).row (by omega) hk n (ajo _);exact⟨this.fw,this.mR,fun a b ha hb hd=>this.new a b ha hb (by omega)⟩
structure Wh(w:Nat→Nat→Nat→Prop)(inf n k:Nat)(d:Mx):Prop where
 fw:Fw w inf n d
 low:∀a b,a<n→b<n→so w k a b (d a b)
theorem Wh.rounds{d:Mx}(h:Wh w inf n 0 d):∀k,k≤n→Wh w inf n k (dk n d k)
 |0,_=>h
 |k+1,hk=>by have ih:=Wh.rounds h k (by omega);have:=SU.rows (k:=k) ⟨ih.fw,ih.low,fun a b ha hb hd=>by omega⟩ (by omega) n (ajo _);exact⟨this.fw,fun a b ha hb=>this.new a b ha hb (.inl ha)⟩
def Qm(inf:Nat):Mx:=fun _ _=>inf
def lay(d:Mx)(e:Ed):Mx:=JB d e.f e.t (min (d e.f e.t) e.c)
def start(inf:Nat)(E:List Ed):Mx:=E.foldl lay (Qm inf)
theorem F5(inf:Nat)(E:List Ed)(e:Ed):start inf (E++[e])=lay (start inf E) e:=by simp[start]
theorem Wi(E:List Ed):(∀i j,start inf E i j≤inf)∧(∀i j,start inf E i j<inf→(⟨i,j,start inf E i j⟩:Ed)∈E)∧∀e∈E,start inf E e.f e.t≤e.c:=by
 rw[←aln E];induction E.reverse with
 |nil=>simp[ajo,start,Qm]
 |cons e l ih=>
  rw[List.reverse_cons,F5];obtain⟨i1,i2,i3⟩:=ih;have hl:∀a b,lay (start inf l.reverse) e a b=if a=e.f∧b=e.t then min (start inf l.reverse e.f e.t) e.c else start inf l.reverse a b:=fun a b=>rfl;refine⟨fun a b=>?_,fun a b h=>?_,fun z hz=>?_⟩
  ·grind
  ·rw[hl]at h⊢;split
   ·rename_i hk;rw[GW hk]at h;by_cases hm:start inf l.reverse e.f e.t≤e.c
    ·simp_all
    ·rw[show min (start inf l.reverse e.f e.t) e.c=e.c by omega,hk.1,hk.2];simp
   simp_all
  grind
theorem F6(E:List Ed):Wh (ew E) inf n 0 (start inf E):=by obtain⟨h1,h2,h3⟩:=Wi (inf:=inf) E;exact⟨⟨fun i j _ _=>h1 i j,fun i j _ _ h=>.F2 (h2 i j h)⟩,fun a b _ _ L hL=>h3 ⟨a,b,L⟩ hL⟩
theorem Z4{E:List Ed}{M:Nat}(hE:∀y∈E,y.f<n∧y.t<n)(hM:M<inf){i j:Nat}(hi:i<n)(hj:j<n)(To:i≠j){D:Int}(hD:Ow E M i j D):(D= -1∧dk n (start inf E) n i j=inf)∨(D=(dk n (start inf E) n i j:Int)∧dk n (start inf E) n i j≤M):=by
 have hd:=(F6 (n:=n) (inf:=inf) E).rounds n (ajo _);have rch:∀L,Jw E i j L↔lI (ew E) i j L:=fun L=>⟨fun h=>by rcases h with⟨h,_⟩|h;exact absurd h.symm To;omega,.inr⟩;have hs:=ZY (w:=ew E) (fun a b c h=>(hE _ h).1) hd.fw hi hj (hd.low i j hi hj) (fun L adJ hw=>by
  rcases hD with⟨_,h⟩|⟨L',_,hle,h1,h2⟩
  ·simp_all
  grind)
 rcases hD with⟨e,h⟩|⟨L',e,hle,h1,h2⟩
 ·left;refine⟨e,?_⟩;have ajd:=hd.fw.top i j hi hj;by_cases bT:dk n (start inf E) n i j<inf
  ·exact absurd ((rch _).2 (hd.fw.real i j hi hj bT)) (h _)
  omega
 ·right;have:(if dk n (start inf E) n i j<inf then some (dk n (start inf E) n i j)else none)=some L':=hs.unique ⟨(rch L').1 h1,fun L'' hw=>h2 L'' ((rch L'').2 hw)⟩;simp_all
def Bv(n:Nat)(r:Nat→Nat):List PV:=(List.range n).map fun j=>.int .i64 (r j)
def qf(n:Nat)(d:Mx):List PV:=(List.range n).map fun i=>.qE 1 (Bv n (d i))
theorem xR(n:Nat)(d:Mx):(qf n d).length=n:=by simp[qf]
theorem uQ(n:Nat)(r:Nat→Nat):(Bv n r).length=n:=by simp[Bv]
theorem uR{n i:Nat}(d:Mx)(h:i<n):(qf n d)[i]?=some (.qE 1 (Bv n (d i))):=by simp[qf,h]
theorem xS{n j:Nat}(r:Nat→Nat)(h:j<n):(Bv n r)[j]?=some (.int .i64 (r j)):=by simp[Bv,h]
theorem L4{n i j:Nat}(d:Mx)(x:Nat)(hi:i<n)(hj:j<n):(qf n d).set i (.qE 1 ((Bv n (d i)).set j (.int .i64 x)))=qf n (JB d i j x):=by
 apply ajw;intro a;rw[ajW];by_cases e:i=a
 ·subst e;rw[GW rfl,GW (by rw[xR];omega),uR _ hi];congr 2;apply ajw;intro b;rw[ajW];by_cases e:j=b
  ·subst e;rw[GW rfl,GW (by rw[uQ];omega),xS _ hj];simp[JB]
  ·rw[No e];by_cases hb:b<n
   ·simp_all[xS,JB,Ne.symm]
   simp_all[aks,uQ]
 ·rw[No e];by_cases ha:a<n
  ·rw[uR _ ha,uR _ ha];simp_all[congr,Bv,ajJ,JB,Ne.symm]
  simp_all[aks,xR]
theorem asR(es:List PV):fb 1 (cell (.qE 1 es) 0)=some es:=rfl
theorem cI(x:Int):cell (.int .i64 x) 0=.int .i64 x:=rfl
theorem aeS(e p:PV):setRow 1 e 0 p=p:=rfl
theorem aeT(q p:PV):setCells 1 q 0 1 p=p:=rfl
theorem Z5(a b:Nat)(hb:b≤4398046511104):(if IntKind.i64.wrap (b:Int)<(a:Int)then IntKind.i64.wrap (b:Int)else(a:Int))=((min a b:Nat):Int):=by grind [aY]
theorem acB(zx:Int×Int×Int×List PV×Unit→Option PV)(n k i:Nat)(d:Mx)(hn:n≤64)(hk:k<n)(hi:i<n)(hd:∀j,j≤n→∀a b,a<n→b<n→dj k i d j a b≤1099511627776):bn.run (jW zx) ((n:Int),(k:Int),(i:Int),0,qf n d,())=zx ((n:Int),(k:Int),IntKind.i64.wrap ((i:Int)+1),qf n (dj k i d n),()):=by
 refine aZ (fun j=>((n:Int),(k:Int),(i:Int),(j:Int),qf n (dj k i d j),())) n (fun j hj rec=>?_) (fun rec=>?_) (by unfold rounds;omega) rfl
 ·unfold jW;dsimp only;have hg:decide ((j:Int)<(n:Int))=true:=by simp;omega
  have ii:au (i:Int) (qf n (dj k i d j)).length:=DY (by rw[xR];omega);have ik:au (k:Int) (qf n (dj k i d j)).length:=DY (by rw[xR];omega);have ji:au (j:Int) (Bv n (dj k i d j i)).length:=DY (by rw[uQ];omega);have ki:au (k:Int) (Bv n (dj k i d j i)).length:=DY (by rw[uQ];omega);have jk:au (j:Int) (Bv n (dj k i d j k)).length:=DY (by rw[uQ];omega);have b1:=hd j (by omega) i k hi hk;have b2:=hd j (by omega) k j hk hj;have hs:(((dj k i d j i k:Nat):Int)+((dj k i d j k j:Nat):Int))=((dj k i d j i k+dj k i d j k j:Nat):Int):=by omega
  simp only[hg,IS,GW ii,GW ik,ajk,uR _ hi,uR _ hk,aa,asR,GW ji,GW ki,GW jk,xS _ hj,xS _ hk,cI,Gs,aeS,aeT,hs,Z5 _ _ (show dj k i d j i k+dj k i d j k j≤4398046511104 by omega),L4 _ _ hi hj,al (show j<9223372036854775807 by omega)];rfl
 simp[jW,No]
theorem acC(Qn:Int×Int×List PV×Unit→Option PV)(n k:Nat)(d:Mx)(hn:n≤64)(hk:k<n)(hd:∀i,i<n→∀j,j≤n→∀a b,a<n→b<n→dj k i (di n k d i) j a b≤1099511627776):bn.run (jX bn Qn) ((n:Int),(k:Int),0,qf n d,())=Qn ((n:Int),IntKind.i64.wrap ((k:Int)+1),qf n (di n k d n),()):=by
 refine aZ (fun i=>((n:Int),(k:Int),(i:Int),qf n (di n k d i),())) n (fun i hi rec=>?_) (fun rec=>?_) (by unfold rounds;omega) rfl
 ·unfold jX;dsimp only;have hg:decide ((i:Int)<(n:Int))=true:=by simp;omega
  rw[GW hg,acB rec n k i _ hn hk hi (hd i hi),al (by omega)];rfl
 simp[jX,No]
theorem acD(n:Nat)(d:Mx)(hn:n≤64)(hd:∀k,k<n→∀i,i<n→∀j,j≤n→∀a b,a<n→b<n→dj k i (di n k (dk n d k) i) j a b≤1099511627776):bn.run (jY bn) ((n:Int),0,qf n d,())=some (.rs 1 ((qf n (dk n d n)).map PV.strip)):=by
 refine aZ (fun k=>((n:Int),(k:Int),qf n (dk n d k),())) n (fun k hk rec=>?_) (fun rec=>?_) (by unfold rounds;omega) rfl
 ·unfold jY;dsimp only;have hg:decide ((k:Int)<(n:Int))=true:=by simp;omega
  rw[GW hg,acC rec n k _ hn hk (hd k hk),al (by omega)];rfl
 simp[jY,No]
abbrev Bw:Nat:=1099511627776
theorem SV(n:Nat):List.replicate n (PV.qE 1 (List.replicate n (PV.int .i64 1099511627776)))=qf n (Qm Bw):=by
 unfold qf Bv Qm;apply ajw;intro i;by_cases hi:i<n
 ·have:(List.range n).map (fun j=>PV.int .i64 ((Bw:Nat):Int))=List.replicate n (PV.int .i64 1099511627776):=by apply ajw;grind
  simp_all
 simp_all
theorem SX(n:Nat)(d:Mx):(qf n d).map PV.strip=eQ n fun i j=>((d i j:Nat):Int):=by unfold qf eQ Bv vW;rw[ak8];rfl
theorem Wj(a b:Nat):(if(b:Int)<(a:Int)then(b:Int)else(a:Int))=((min a b:Nat):Int):=by omega
theorem JC(fr:Bool)(l:List Fp)(p:Fp):counted fr (l++[p])=if(fr&& !p.free)=true then counted fr l else counted fr l++[p.ed]:=by unfold counted;grind
theorem Bx(l:List Fp)(n:Nat)(hn:n≤64)(hl:l.length≤4096)(h:∀p∈l,p.a<n∧p.b<n)(fr:Bool):k9 [.rs 4 (l.map Fp.pv),.int .i64 n,.bool fr]=some (.rs 1 (eQ n fun i j=>((dk n (start Bw (counted fr l)) n i j:Nat):Int))):=by
 have e0:aw 4 (.rs 4 (l.map Fp.pv))=some (l.map Fp.pv):=by rfl
 have hE:∀y∈counted fr l,y.f<n∧y.t<n:=fun y hy=>by obtain⟨p,hp,rfl⟩:=xM hy;exact h p hp
 simp only[k9,xU,e0,aa,Gs,asBool];refine aZ (fun i=>(l.map Fp.pv,(n:Int),fr,(i:Int),List.replicate i (PV.qE 1 (List.replicate n (PV.int .i64 1099511627776))),())) n (fun i hi rec=>?_) (fun rec=>?_) (by unfold rounds;omega) rfl
 ·unfold nX;dsimp only;have hg:decide ((i:Int)<(n:Int))=true:=by simp;omega
  rw[GW hg];refine aZ (fun j=>(l.map Fp.pv,(n:Int),fr,(i:Int),(j:Int),List.replicate i (PV.qE 1 (List.replicate n (PV.int .i64 1099511627776))),List.replicate j (PV.int .i64 1099511627776),())) n (fun j hj acE=>?_) (fun acE=>?_) (by unfold rounds;omega) rfl
  ·unfold nY;dsimp only;have hg:decide ((j:Int)<(n:Int))=true:=by simp;omega
   have GB:List.replicate j (PV.int .i64 1099511627776)++[PV.int .i64 1099511627776]=List.replicate (j+1) (PV.int .i64 1099511627776):=(al6 ..).symm;rw[GW hg];simp only[GB,aj1];rw[GW (by unfold ah;omega),al (by omega)]
  ·unfold nY;dsimp only;have GB:List.replicate i (PV.qE 1 (List.replicate n (PV.int .i64 1099511627776)))++[PV.qE 1 (List.replicate n (PV.int .i64 1099511627776))]=List.replicate (i+1) (PV.qE 1 (List.replicate n (PV.int .i64 1099511627776))):=(al6 ..).symm;rw[No (by simp)];simp only[GB,aj1];rw[GW (by unfold ah;omega),al (by omega)]
 ·unfold nX;dsimp only;rw[No (by simp),SV];refine aZ (fun k=>(l.map Fp.pv,(n:Int),fr,(k:Int),qf n (start Bw (counted fr (l.take k))),())) l.length (fun k hk acE=>?_) (fun acE=>?_) (by unfold rounds;omega) rfl
  ·unfold nZ;dsimp only;have hg:decide ((k:Int)<((l.map Fp.pv).length:Int))=true:=by simp;omega
   obtain⟨p,hp⟩:∃p,l[k]?=some p:=⟨_,cO hk⟩;have GC:(l.map Fp.pv)[k]?=some p.pv:=by simp_all
   have ZA:l.take (k+1)=l.take k++[p]:=by rw[alL,hp];rfl
   obtain⟨pa,pb⟩:=h p (agx hp);have hr:(bif p.free then some true else some !fr)=some (!(fr&& !p.free)):=by grind
   rw[GW hg,aN,GC,aa,ZA,JC];simp only[fp3,asBool,aa,hr];cases hb:(fr&& !p.free)with
   |true=>simp only[aji,cQ,S3,IS,al (show k<9223372036854775807 by omega)]
   |false=>
    obtain⟨d,hd⟩:∃d,d=start Bw (counted fr (l.take k)):=⟨_,rfl⟩;have ia:au (p.a:Int) (qf n d).length:=DY (by rw[xR];omega);have ib:au (p.b:Int) (Bv n (d p.a)).length:=DY (by rw[uQ];omega);have uf:qf n (start Bw (counted fr (l.take k)++[p.ed]))=qf n (JB d p.a p.b (min (d p.a p.b) p.c)):=by rw[F5,←hd];rfl
    simp only[ajC,IS,cQ,S3,uf,←hd,fp0,fp1,fp2,Gs,aa,GW ia,ajk,uR _ pa,asR,GW ib,xS _ pb,cI,aeS,aeT,Wj,L4 _ _ pa pb,al (show k<9223372036854775807 by omega)]
  ·unfold nZ;dsimp only;rw[No (by simp),ajZ,←SX];have aeU:=F6 (n:=n) (inf:=Bw) (counted fr l);exact acD n _ hn fun k hk i hi j hj a b ha hb=>by have ih:=aeU.rounds k (by omega);have:=(SU.rows (k:=k) ⟨ih.fw,ih.low,fun a b ha hb hd=>by omega⟩ hk i (by omega)).row hi hk j hj;exact this.fw.top a b ha hb
def Yr(i k:Nat)(s:Int)(b:Bool):PV:=.agg [.int .i64 i,.int .i64 k,.int .i64 s,.bool b]
def DE(w f:Int)(i k:Nat):List PV:=if i=k∨w>14400 then[]else Yr i k w (f==w)::(if f>w∧f≤14400 then[Yr i k f true]else[])
def xV(n:Nat)(it:Nat→Nat→List PV)(i:Nat):List PV:=(List.range n).flatMap (it i)
def Al(n:Nat)(it:Nat→Nat→List PV)(m:Nat):List PV:=(List.range m).flatMap (xV n it)
theorem Cw(n:Nat)(it:Nat→Nat→List PV)(i:Nat):xV (n+1) it i=xV n it i++it i n:=by simp[xV,akU,als]
theorem Cx(n:Nat)(it:Nat→Nat→List PV)(m:Nat):Al n it (m+1)=Al n it m++xV n it m:=by simp[Al,akU,als]
theorem Bz{it:Nat→Nat→List PV}(h:∀i k,(it i k).length≤2)(i:Nat):∀k,(xV k it i).length≤2*k
 |0=>by simp[xV]
 |k+1=>by rw[Cw,aju];have:=Bz h i k;have:=h i k;omega
theorem Bq{it:Nat→Nat→List PV}(h:∀i k,(it i k).length≤2)(n:Nat):∀m,(Al n it m).length≤2*n*m
 |0=>by simp[Al]
 |m+1=>by rw[Cx,aju,Nat.mul_succ];have:=Bq h n m;have:=Bz h m n;omega
theorem Jr(w f:Int)(i k:Nat):(DE w f i k).length≤2:=by grind [DE]
theorem Ic{n k:Nat}(D:Nat→Int)(h:k<n):(vW n D)[k]?=some (.int .i64 (D k)):=by simp[vW,h]
theorem Cy{n i:Nat}(D:Nat→Nat→Int)(h:i<n):(eQ n D)[i]?=some (.rs 1 (vW n (D i))):=by simp[eQ,h]
theorem acF(es:List PV):aw 1 (cell (.rs 1 es) 0)=some es:=by rfl
theorem uW{a:List PV}(h:a.length≤16384):a.length*32≤ah∧0<32:=by unfold ah;omega
theorem Ox(JD:acG→Option PV)(n i:Nat)(W F:Nat→Nat→Int)(hn:n≤64)(hi:i<n)(acc:List PV)(ah5:acc.length≤8192):bn.run (mb bn JD) ((n:Int),eQ n W,eQ n F,(i:Int),0,acc,())=JD ((n:Int),eQ n W,eQ n F,IntKind.i64.wrap ((i:Int)+1),acc++xV n (fun i k=>DE (W i k) (F i k) i k) i,()):=by
 refine aZ (fun k=>((n:Int),eQ n W,eQ n F,(i:Int),(k:Int),acc++xV k (fun i k=>DE (W i k) (F i k) i k) i,())) n (fun k hk rec=>?_) (fun rec=>?_) (by unfold rounds;omega) (by simp[xV])
 ·unfold mb;dsimp only;have hg:decide ((k:Int)<(n:Int))=true:=by simp;omega
  rw[Cw];have hlen:=Bz (it:=fun i k=>DE (W i k) (F i k) i k) (fun i k=>Jr _ _ i k) i k;generalize hA:acc++xV k (fun i k=>DE (W i k) (F i k) i k) i=A;have hAl:A.length≤8192+128:=by grind
  rw[←ajD,hA];simp only[hg,IS,aN,Cy _ hi,aa,acF,Ic _ hk,cI,Gs,al (show k<9223372036854775807 by omega)];generalize W i k=w;generalize F i k=f;by_cases Yq:i=k
  ·simp_all[DE,GW,cond_true,aa,IS,akl]
  ·have hb:((i:Int)==(k:Int))=false:=by grind
   simp only[hb,cond_false,aa];by_cases hw:w>14400
   ·simp_all[DE,GW,ajx,IS,akl]
   ·have hr1:(A++[PV.agg [.int .i64 i,.int .i64 k,.int .i64 w,.bool (f==w)]]).length*32≤ah∧0<32:=uW (by simp;omega);simp only[hw,ajz,cQ,S3,GW hr1];by_cases hf:f>w
    ·by_cases hf2:f≤14400
     ·have RA:(A++[PV.agg [.int .i64 i,.int .i64 k,.int .i64 w,.bool (f==w)]]++[PV.agg [.int .i64 i,.int .i64 k,.int .i64 f,.bool true]]).length*32≤ah∧0<32:=uW (by simp;omega);have hit:DE w f i k=[Yr i k w (f==w),Yr i k f true]:=by simp_all[DE,No,GW]
      simp only[hf,hf2,ajx,cond_true,aa,IS,GW RA,hit];rw[ajD];rfl
     ·have hit:DE w f i k=[Yr i k w (f==w)]:=by simp_all[DE,No]
      simp only[hf,hf2,ajx,ajz,cond_true,aa,cQ,S3,hit];rfl
    ·have hit:DE w f i k=[Yr i k w (f==w)]:=by unfold DE;grind
     simp only[hf,ajz,cond_false,aa,cQ,S3,hit];rfl
 simp[mb,No]
theorem L5(n:Nat)(W F:Nat→Nat→Int)(hn:n≤64):bn.run (mc bn) ((n:Int),eQ n W,eQ n F,0,[],())=some (.rs 4 (Al n (fun i k=>DE (W i k) (F i k) i k) n)):=by
 refine aZ (fun i=>((n:Int),eQ n W,eQ n F,(i:Int),Al n (fun i k=>DE (W i k) (F i k) i k) i,())) n (fun i hi rec=>?_) (fun rec=>?_) (by unfold rounds;omega) rfl
 ·unfold mc;dsimp only;have hg:decide ((i:Int)<(n:Int))=true:=by simp;omega
  have hlen:=Bq (it:=fun i k=>DE (W i k) (F i k) i k) (fun i k=>Jr _ _ i k) n i;have hb:2*n*i≤2*64*64:=alg (by omega) (by omega);rw[GW hg,Ox rec n i W F hn hi _ (by omega),Cx,al (by omega)]
 simp[mc,No]
def uK(n:Nat)(l:List Fp)(fr:Bool)(i j:Nat):Int:=((dk n (start Bw (counted fr l)) n i j:Nat):Int)
theorem Oy(l:List Fp)(n:Nat)(hn:n≤64)(hl:l.length≤4096)(h:∀p∈l,p.a<n∧p.b<n):nQ [.rs 4 (l.map Fp.pv),.int .i64 n]=some (.rs 4 (Al n (fun i k=>DE (uK n l false i k) (uK n l true i k) i k) n)):=by
 have e0:aw 4 (.rs 4 (l.map Fp.pv))=some (l.map Fp.pv):=by rfl
 have e1:∀es,aw 1 (.rs 1 es)=some es:=fun es=>by rfl
 simp only[nQ,BA,e0,aa,Gs,Bx l n hn hl h false,Bx l n hn hl h true,e1];simp_all[L5,uK]
def MD(w f:Int)(i k:Nat):List PV:=if i=k then[]else(if 0<w∧w≤14400 then[Yr i k w (f==w)]else[])++(if f≠w∧0<f∧f≤14400 then[Yr i k f true]else[])
theorem lI.pos{w:Nat→Nat→Nat→Prop}(h:∀i j c,w i j c→1≤c){i j L:Nat}(hw:lI w i j L):1≤L:=by
 cases hw with
 |F2 e=>exact h _ _ _ e
 |snoc _ e=>have:=h _ _ _ e;omega
def Z6(M:Nat)(d w:Int):Prop:=(d= -1∧w=(Bw:Int))∨(d=w∧1≤w∧w≤M)
theorem aeV{M:Nat}(hM:M<Bw){d0 d1 w f:Int}(h0:Z6 M d0 w)(h1:Z6 M d1 f)(h10:d1≠-1→d0≠-1∧d0≤d1)(i k:Nat):MD d0 d1 i k=DE w f i k:=by
 unfold MD DE;by_cases Yq:i=k
 ·simp_all
 ·rw[No Yq];have hM:(M:Int)<1099511627776:=by grind
  have ah6:((Bw:Nat):Int)=1099511627776:=rfl;rw[Z6,ah6]at h0 h1;rcases h0 with⟨e0,w0⟩|⟨e0,w1,w2⟩
  ·simp_all
  ·subst e0;rcases h1 with⟨e1,f0⟩|⟨e1,f1,f2⟩
   ·by_cases hw:d0≤14400
    ·have b1:(d1==d0)=false:=by grind
     have b2:(f==d0)=false:=by grind
     grind
    simp_all
   grind
theorem Z7{l:List Fp}{n B:Nat}(hn:n≤64)(hB:B≤1073741824)(h:∀p∈l,p.a<n∧p.b<n∧1≤p.c∧p.c≤B)(fr:Bool){i k:Nat}(hi:i<n)(hk:k<n)(Yq:i≠k){d:Int}(hd:Ow (counted fr l) (B*n) i k d):Z6 (B*n) d (uK n l fr i k):=by
 have hE:∀y∈counted fr l,y.f<n∧y.t<n∧1≤y.c:=fun y hy=>by obtain⟨p,hp,rfl⟩:=xM hy;obtain⟨a,b,c,_⟩:=h p hp;exact⟨a,b,c⟩
 have hM:B*n<Bw:=by have:B*n≤1073741824*64:=alg hB hn;grind
 rcases Z4 (inf:=Bw) (fun y hy=>⟨(hE y hy).1,(hE y hy).2.1⟩) hM hi hk Yq hd with⟨e1,e2⟩|⟨e1,e2⟩
 ·exact .inl ⟨e1,by unfold uK;omega⟩
 ·refine .inr ⟨e1,?_,by unfold uK;omega⟩;rcases hd with⟨e,_⟩|⟨L,e,_,hr,_⟩
  ·omega
  ·have:1≤L:=by
    rcases hr with⟨h,_⟩|hw
    ·omega
    ·exact hw.pos fun a b c hc=>(hE _ hc).2.2
   unfold uK;omega
theorem Z8{l:List Fp}{M i k:Nat}{d0 d1:Int}(h0:Ow (counted false l) M i k d0)(h1:Ow (counted true l) M i k d1)(cJ:d1≠-1):d0≠-1∧d0≤d1:=by
 have sub:∀y,y∈counted true l→y∈counted false l:=fun y hy=>by unfold counted at hy⊢;grind
 rcases h1 with⟨e,_⟩|⟨L1,e1,_,r1,_⟩
 ·omega
 ·have r:=r1.mem sub;rcases h0 with⟨_,h⟩|⟨L0,e0,_,_,m0⟩
  ·exact absurd r (h L1)
  simp_all
theorem Qo(w f:Int)(i k:Nat):(MD w f i k).length≤2:=by grind [MD,List.length_append]
theorem SY(JD:TY8→Option PV)(n i:Nat)(W F:Nat→Nat→Int)(hn:n≤64)(hi:i<n)(acc:List PV)(ah5:acc.length≤8192):bn.run (gV bn JD) (eQ n W,eQ n F,(i:Int),(n:Int),(i:Int),vW n (W i),(n:Int),0,acc,())=JD (eQ n W,eQ n F,(n:Int),IntKind.i64.wrap ((i:Int)+1),acc++xV n (fun i k=>MD (W i k) (F i k) i k) i,()):=by
 refine aZ (fun k=>(eQ n W,eQ n F,(i:Int),(n:Int),(i:Int),vW n (W i),(n:Int),(k:Int),acc++xV k (fun i k=>MD (W i k) (F i k) i k) i,())) n (fun k hk rec=>?_) (fun rec=>?_) (by unfold rounds;omega) (by simp[xV])
 ·unfold gV;dsimp only;have hg:decide ((k:Int)<(n:Int))=true:=by simp;omega
  rw[Cw];have hlen:=Bz (it:=fun i k=>MD (W i k) (F i k) i k) (fun i k=>Qo _ _ i k) i k;generalize hA:acc++xV k (fun i k=>MD (W i k) (F i k) i k) i=A;have hAl:A.length≤8192+128:=by grind
  rw[←ajD,hA];simp only[hg,IS,aN,Ic _ hk,Cy _ hi,aa,acF,cI,Gs,al (show k<9223372036854775807 by omega)];generalize W i k=w;generalize F i k=f;by_cases Yq:i=k
  ·simp_all[MD,GW,IS,akl]
  ·have hb:((i:Int)==(k:Int))=false:=by grind
   have hand:∀x:Int,(bif decide (x>0)then some (decide (x≤14400))else some false)=some (decide (0<x∧x≤14400)):=fun x=>by grind
   have hr1:(A++[PV.agg [.int .i64 i,.int .i64 k,.int .i64 w,.bool (f==w)]]).length*32≤ah∧0<32:=uW (by simp;omega);have RA:(A++[PV.agg [.int .i64 i,.int .i64 k,.int .i64 w,.bool (f==w)]]++[PV.agg [.int .i64 i,.int .i64 k,.int .i64 f,.bool true]]).length*32≤ah∧0<32:=uW (by simp;omega);have YT:(A++[PV.agg [.int .i64 i,.int .i64 k,.int .i64 f,.bool true]]).length*32≤ah∧0<32:=uW (by simp;omega);have cJ:(f !=w)=decide (f≠w):=by grind
   have hit:MD w f i k=(if 0<w∧w≤14400 then[Yr i k w (f==w)]else[])++(if f≠w∧0<f∧f≤14400 then[Yr i k f true]else[]):=No Yq;simp only[hb,cQ,S3,hand,aa,cJ,AT,hit,GW hr1,GW RA,GW YT];by_cases h1:0<w∧w≤14400
   ·by_cases h2:f≠w
    ·by_cases h3:0<f∧f≤14400
     ·rw[GW h1,GW h2,GW h3,GW h1,GW ⟨h2,h3⟩,ajD];rfl
     ·rw[GW h1,GW h2,No h3,GW h1,No (fun h=>h3 h.2)];rfl
    ·rw[GW h1,No h2,GW h1,No (fun h=>h2 h.1)];rfl
   ·by_cases h2:f≠w
    ·by_cases h3:0<f∧f≤14400
     ·rw[No h1,GW h2,GW h3,No h1,GW ⟨h2,h3⟩];rfl
     grind
    grind
 simp[gV,No]
theorem Oz(n:Nat)(W F:Nat→Nat→Int)(hn:n≤64){es':List PV}(hs:xn 4 (fun c a b=>cd [a,b]) (Al n (fun i k=>MD (W i k) (F i k) i k) n)=some es'):bn.run (gW bn) (eQ n W,eQ n F,(n:Int),0,[],())=some (.rs 4 es'):=by
 have hlen:∀i,i≤n→(Al n (fun i k=>MD (W i k) (F i k) i k) i).length≤8192:=fun i hi=>by have h1:=Bq (it:=fun i k=>MD (W i k) (F i k) i k) (fun i k=>Qo _ _ i k) n i;have hb:2*n*i≤2*64*64:=alg (by omega) (by omega);omega
 refine aZ (fun i=>(eQ n W,eQ n F,(n:Int),(i:Int),Al n (fun i k=>MD (W i k) (F i k) i k) i,())) n (fun i hi rec=>?_) (fun rec=>?_) (by unfold rounds;omega) rfl
 ·unfold gW;dsimp only;have hg:decide ((i:Int)<(n:Int))=true:=by simp;omega
  have hrl:((vW n (W i)).length:Int)=(n:Int):=by simp[vW]
  rw[GW hg,aN,Cy _ hi,aa,acF,aa,hrl,SY rec n i W F hn hi _ (hlen i (by omega)),Cx,al (by omega)]
 ·unfold gW;dsimp only;have h:=hlen n (ajo _);rw[No (by simp),GW (by(first|refine⟨rfl,?_,rfl⟩|refine⟨rfl,?_⟩);unfold ah;omega),hs];rfl
def kI:PV→Int
 |.int _ n=>n
 |_=>0
def c3(x y:Int):Int:=if x<y then-1 else if x>y then 1 else 0
def or3(a b c:Int):Int:=if a≠0 then a else if b≠0 then b else c
def cfp(a b:List PV):Int:=or3 (c3 (kI (a.getD 0 .bad)) (kI (b.getD 0 .bad))) (c3 (kI (a.getD 1 .bad)) (kI (b.getD 1 .bad))) (c3 (kI (a.getD 2 .bad)) (kI (b.getD 2 .bad)))
theorem OA(x y:Int):eR [.int .i64 x,.int .i64 y]=some (.int .i64 (c3 x y)):=by
 have h:∀z:Int,¬(z !=z)=true:=fun z=>by simp
 simp only[eR,qg,Gs,aa,No (h x),No (h y),AT];unfold c3;grind
theorem aeW(a b c:Int):qQ [.rs 1 [.int .i64 a,.int .i64 b,.int .i64 c]]=some (.int .i64 (or3 a b c)):=by
 have e0:aw 1 (.rs 1 [.int .i64 a,.int .i64 b,.int .i64 c])=some [.int .i64 a,.int .i64 b,.int .i64 c]:=by rfl
 simp only[qQ,Am,e0,aa];obtain⟨es,JU⟩:∃es,es=[PV.int .i64 a,.int .i64 b,.int .i64 c]:=⟨_,rfl⟩;have hl:((es.length:Nat):Int)=3:=by rw[JU];rfl
 rw[←JU];have hb:∀(k:Nat)(x:Int),es[k]?=some (.int .i64 x)→k<3→∀rec,ey (0,es,((es.length:Nat):Int),(k:Int),()) rec=if x≠0 then some (.int .i64 x)else rec (0,es,((es.length:Nat):Int),((k+1:Nat):Int),()):=fun k x hx hk rec=>by
  unfold ey;dsimp only;have hg:decide ((k:Int)<((es.length:Nat):Int))=true:=by rw[hl];simp;omega
  rw[GW hg,aN,hx,aa,cI,Gs,aa,al (by omega)];simp
 have he:∀rec,ey (0,es,((es.length:Nat):Int),((3:Nat):Int),()) rec=some (.int .i64 0):=fun rec=>by unfold ey;simp_all
 have hN:rounds=18446744073709551612+1+1+1+1:=rfl;rw[nd,hN];generalize 18446744073709551612=N;show ey (0,es,((es.length:Nat):Int),((0:Nat):Int),()) _=_;rw[hb 0 a (by rw[JU];rfl) (by omega)];unfold or3;by_cases h1:a≠0
 ·simp_all
 ·rw[No h1,No h1];show ey (0,es,((es.length:Nat):Int),((1:Nat):Int),()) _=_;rw[hb 1 b (by rw[JU];rfl) (by omega)];by_cases h2:b≠0
  ·simp_all
  ·rw[No h2,No h2];show ey (0,es,((es.length:Nat):Int),((2:Nat):Int),()) _=_;rw[hb 2 c (by rw[JU];rfl) (by omega)];by_cases h3:c≠0
   ·rw[GW h3]
   ·rw[No h3];show ey (0,es,((es.length:Nat):Int),((3:Nat):Int),()) _=_;simp_all
def Ty(i k:Nat)(s:Int)(b:Bool):List PV:=[.int .i64 i,.int .i64 k,.int .i64 s,.bool b]
theorem Wk(i k:Nat)(s:Int)(b:Bool)(i' k':Nat)(s':Int)(b':Bool):cd [yY (Ty i k s b),yY (Ty i' k' s' b')]=some (.int .i64 (cfp (Ty i k s b) (Ty i' k' s' b'))):=by have a:∀(w x y z:PV),asAgg 4 (.agg [w,x,y,z])=some ():=fun _ _ _ _=>rfl;have a0:∀(w x y z:PV),cell (.agg [w,x,y,z]) 0=w:=fun _ _ _ _=>rfl;have a1:∀(w x y z:PV),cell (.agg [w,x,y,z]) 1=x:=fun _ _ _ _=>rfl;have a2:∀(w x y z:PV),cell (.agg [w,x,y,z]) 2=y:=fun _ _ _ _=>rfl;have a3:∀(w x y z:PV),cell (.agg [w,x,y,z]) 3=z:=fun _ _ _ _=>rfl;simp only[cd,mF,yY,Ty,a,a0,a1,a2,a3,Gs,asBool,aa,OA,aeW];rfl
theorem Wl(x y:Int):(c3 x y<0↔x<y)∧(c3 x y=0↔x=y):=by grind [c3]
theorem Cz(i k:Nat)(s:Int)(b:Bool)(i' k':Nat)(s':Int)(b':Bool):cfp (Ty i k s b) (Ty i' k' s' b')<0↔i<i'∨(i=i'∧(k<k'∨(k=k'∧s<s'))):=by show or3 (c3 (i:Int) (i':Int)) (c3 (k:Int) (k':Int)) (c3 s s')<0↔_;have h1:=Wl (i:Int) (i':Int);grind [Wl,or3]
def IsF(e:List PV):Prop:=∃i k s b,e=Ty i k s b
variable{ns:List (List PV)}
theorem OB(h:ns.Pairwise fun a b=>cfp a b<0):∀a∈ns,∀b∈ns,¬cfp a b<0→¬cfp b a<0→a=b:=by
 induction h with
 |nil=>simp
 | @cons x l hx _ ih=>grind
theorem L6(hF:∀e∈ns,IsF e)(h:ns.Pairwise fun a b=>cfp a b<0):kP 4 (fun c a b=>cd [a,b]) ns ns cfp where
 len a ha:=by obtain⟨i,k,s,b,rfl⟩:=hF a ha;rfl
 T9 a ha p hp:=by obtain⟨i,k,s,b,rfl⟩:=hF a ha;simp only[Ty,aih,ajE,akF]at hp;rcases hp with rfl|rfl|rfl|rfl<;>rfl
 perm:=List.Perm.refl _
 reads c _ _ a ha b hb:=by obtain⟨i,k,s,q,rfl⟩:=hF a ha;obtain⟨i',k',s',q',rfl⟩:=hF b hb;exact Wk ..
 irrefl a ha:=by obtain⟨i,k,s,q,rfl⟩:=hF a ha;rw[Cz];omega
 trans a ha b hb c hc h1 h2:=by obtain⟨i,k,s,q,rfl⟩:=hF a ha;obtain⟨i',k',s',q',rfl⟩:=hF b hb;obtain⟨i2,k2,s2,q2,rfl⟩:=hF c hc;rw[Cz]at*;omega
 total:=OB h
 sorted:=h.imp_of_mem fun{a b}ha hb wb=>by obtain⟨i,k,s,q,rfl⟩:=hF a ha;obtain⟨i',k',s',q',rfl⟩:=hF b hb;rw[Cz]at*;omega
def itC(w f:Int)(i k:Nat):List (List PV):=if i=k∨w>14400 then[]else Ty i k w (f==w)::(if f>w∧f≤14400 then[Ty i k f true]else[])
theorem Z9(w f:Int)(i k:Nat):(itC w f i k).map yY=DE w f i k:=by
 unfold itC DE;split
 ·rfl
 ·split<;>rfl
def GO(n:Nat)(W F:Nat→Nat→Int):List (List PV):=(List.range n).flatMap fun i=>(List.range n).flatMap fun k=>itC (W i k) (F i k) i k
theorem Cq(n:Nat)(W F:Nat→Nat→Int):eE (GO n W F)=Al n (fun i k=>DE (W i k) (F i k) i k) n:=by unfold eE GO Al xV;rw[List.map_flatMap];congr 1;funext i;rw[List.map_flatMap];congr 1;funext k;exact Z9 ..
theorem BB{w f:Int}{i k:Nat}{e:List PV}(h:e∈itC w f i k):∃s b,e=Ty i k s b:=by unfold itC at h;grind
theorem LG(n:Nat)(W F:Nat→Nat→Int):∀e∈GO n W F,IsF e:=fun e h=>by obtain⟨i,_,h⟩:=ak3.1 h;obtain⟨k,_,h⟩:=ak3.1 h;obtain⟨s,b,rfl⟩:=BB h;exact⟨i,k,s,b,rfl⟩
theorem L7(n:Nat)(W F:Nat→Nat→Int):(GO n W F).Pairwise fun a b=>cfp a b<0:=by
 unfold GO;rw[al2];refine⟨fun i _=>?_,List.pairwise_lt_range.imp fun{i i'}hii x hx y hy=>?_⟩
 ·rw[al2];refine⟨fun k _=>?_,List.pairwise_lt_range.imp fun{k k'}Aq x hx y hy=>?_⟩
  ·unfold itC;split
   ·simp
   grind [Cz]
  ·obtain⟨s,b,rfl⟩:=BB hx;obtain⟨s',b',rfl⟩:=BB hy;rw[Cz];omega
 ·obtain⟨k,_,hx⟩:=ak3.1 hx;obtain⟨k',_,hy⟩:=ak3.1 hy;obtain⟨s,b,rfl⟩:=BB hx;obtain⟨s',b',rfl⟩:=BB hy;rw[Cz];omega
theorem Og(l:List Fp)(n:Nat)(hn:n≤64)(hl:l.length≤4096)(h:∀p∈l,p.a<n∧p.b<n∧1≤p.c∧p.c≤14400):fV [.rs 4 (l.map Fp.pv),.int .i64 n]=some (.rs 4 (eE (GO n (uK n l false) (uK n l true))))∧nQ [.rs 4 (l.map Fp.pv),.int .i64 n]=some (.rs 4 (eE (GO n (uK n l false) (uK n l true)))):=by
 have hr:=Oy l n hn hl fun p hp=>⟨(h p hp).1,(h p hp).2.1⟩;rw[←Cq]at hr;refine⟨?_,hr⟩;have hB:(14400:Nat)≤1073741824:=by omega
 obtain⟨D0,d0,e0⟩:=Ql l n 14400 hn hl hB (fun p hp=>⟨(h p hp).1,(h p hp).2.1,(h p hp).2.2.2⟩) false;obtain⟨D1,d1,e1⟩:=Ql l n 14400 hn hl hB (fun p hp=>⟨(h p hp).1,(h p hp).2.1,(h p hp).2.2.2⟩) true;have hM:14400*n<Bw:=by grind
 have Nl:Al n (fun i k=>MD (D0 i k) (D1 i k) i k) n=eE (GO n (uK n l false) (uK n l true)):=by
  rw[Cq];unfold Al xV;rw[alm,alm];congr 1;apply ajJ;intro i hi;rw[alm,alm];congr 1;apply ajJ;intro k hk;have hi:=aj5.1 hi;have hk:=aj5.1 hk;dsimp only;by_cases Yq:i=k
  ·simp_all[MD,GW,DE,uK]
  grind [aeV,Z7,Z8]
 have a0:aw 4 (.rs 4 (l.map Fp.pv))=some (l.map Fp.pv):=by rfl
 have a1:∀es,aw 1 (.rs 1 es)=some es:=fun es=>by rfl
 have hlen:((eQ n D0).length:Int)=(n:Int):=by simp[eQ]
 simp only[fV,oS,a0,Gs,aa,e0,e1,a1,hlen];exact Oz n D0 D1 hn (by rw[Nl];exact RU (L6 (LG _ _ _) (L7 _ _ _)))
end Go.Ab.Nw
