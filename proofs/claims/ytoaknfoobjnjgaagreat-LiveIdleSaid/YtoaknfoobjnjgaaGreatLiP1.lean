import Derived.Test.YtoaknfoobjnjgaaGreatOvP2
import Derived.Test.YtoaknfoobjnjgaaGreatLvP1
set_option linter.all false
namespace Go.Ab.Tt
set_option maxRecDepth 100000
set_option maxHeartbeats 4000000
theorem once{S R:Type}{body:S→(S→Option R)→Option R}{s:S}{r:Option R}(h:∀rec,body s rec=r):bd.run body s=r:=by show bX body (18446744073709551615+1) s=r;rw[bX,h]
variable{n:Nat}
theorem lE(h:n≤10000):n<rounds:=by
 have:10003<rounds:=by decide
 omega
theorem bs{α β:Type}{o:Option α}{a:α}{f:α→Option β}(h:o=some a):o.bind f=f a:=by rw[h];rfl
theorem pcE{R:Type}{p:PV}{cs:List PV}{a:Option R}{b:PV→Option R}(hp:p=.rp cs)(hn:n≤cs.length):lq n p a b=b (.agg cs):=by subst hp;show(if n≤cs.length then b (.agg cs)else none)=_;rw[BY hn]
theorem wJ{α:Type}{c:Bool}{a b:α}(h:c=true):(bif c then a else b)=a:=by rw[h];rfl
theorem Yt(c a b:Bool):(bif c then some a else some b)=some (bif c then a else b):=by cases c<;>rfl
structure Src where
 L5:Bool
 last:Int
 recv:Bool
 seq:Int
def Src.pv(s:Src):PV:=.agg [.bool s.L5,.int .i64 s.last,.bool s.recv,.int .i64 s.seq]
def Src.HN(s:Src)(t:Int):Bool:= !s.L5||decide (t>s.last)
def Src.Yu(s:Src)(t:Int):Src:=if s.HN t=true then{s with L5:=true,last:=t}else s
def Src.got(s:Src)(t q:Int):Src:={s.Yu t with recv:=true,seq:=q}
def Src.Rl(s:Src)(t p:Int):Bool:= !s.L5||(decide (t>s.last)&&decide (IntKind.u64.wrap (IntKind.u64.wrap t-IntKind.u64.wrap s.last)>IntKind.u64.wrap p))
structure LS where
 N:ay
 iX:List Src
 pat:Int
 kept:List bS
 now:Int
def LS.box(S:LS):PV:=.rp [.rs 4 (S.iX.map Src.pv),.int .i64 S.pat,.rs 13 (S.kept.map bS.pv)]
def Fi(a b:bS):Bool:=a.aZ==b.aZ&&a.day==b.day&&a.inst==b.inst
def DP(a b:bS):Bool:=if(!a.aZ==b.aZ)=true then Op.bytesLess a.aZ b.aZ else if(a.day !=b.day)=true then decide (a.day<b.day)else if(a.inst !=b.inst)=true then decide (a.inst<b.inst)else decide (a.seq<b.seq)
def Yv(k:Int):Bool:=k==2||k==4||k==5||k==6
def sup(m o:bS):Bool:=m.source==o.source&&Fi m o&&decide (m.seq>o.seq)&&(Yv m.kind||(m.kind==o.kind&&m.call==o.call))
def LS.Rm(S:LS)(i:Int):Bool:=decide (i≥0)&&decide (i<(S.iX.length:Int))
def LS.Yw(S:LS)(i:Int)(t:Int):Bool:=S.Rm i&&((S.iX[i.toNat]?).map fun s=>s.Rl t S.pat).getD false
def LS.Jm(S:LS)(t:Int)(m:bS):Bool:=decide (m.fO≤t)&&decide (m.dz>t)&& !S.Yw m.source t
def Ks(l:List bS)(m:bS):Bool:=l.any fun o=>decide (o.source<m.source)&&Fi o m
def Ou(l:List bS)(m:bS):Nat→Nat
 |0=>0
 |k+1=>if((l[k]?).map (DP m)).getD false=true then Ou l m k else k+1
def Vt(l:List bS)(m:bS):List bS:=l.take (Ou l m l.length)++[m]++l.drop (Ou l m l.length)
def Vu(l:List bS)(out:List bS)(m:bS):List bS:=if Ks l m=true then out else Vt out m
def Jn(l:List bS)(n:Nat):List bS:=(l.take n).foldl (Vu l) []
def LS.cur(S:LS)(t:Int):List bS:=S.kept.filter (S.Jm t)
def LS.act(S:LS)(t:Int):List bS:=Jn (S.cur t) (S.cur t).length
def LS.L6(S:LS)(m:bS):Int:=
 if S.now<0∨S.now>3155932800 then 10 else if gb m≠0 then gb m else if m.source≥(S.iX.length:Int)then 36
 else if(((S.iX[m.source.toNat]?).map fun s=>s.recv&&decide (m.seq≤s.seq)).getD false||decide (m.dz≤S.now))=true then 37 else 0
def LS.stay(S:LS)(m:bS)(o:bS):Bool:= !sup m o&&decide (o.dz>S.now)
def LS.rest(S:LS)(m:bS):List bS:=S.kept.filter (S.stay m)
def Jo(l:List Src)(i:Nat)(f:Src→Src):List Src:=match l[i]? with|some s=>l.set i (f s)|none=>l
def LS.rcv(S:LS)(m:bS):LS×Int:=
 if S.L6 m≠0 then(S,S.L6 m)else if(S.rest m).length≥256 then(S,5)
 else({S with kept:=S.rest m++[m],iX:=Jo S.iX m.source.toNat fun s=>s.got S.now m.seq},0)
def LS.afM(S:LS)(i:Int):LS×Int:=
 if S.Rm i=false then(S,36)else if S.now<0∨S.now>3155932800 then(S,10)
 else({S with iX:=Jo S.iX i.toNat fun s=>s.Yu S.now},0)
def LS.adv(S:LS)(n:Int):LS×Int:=if n<S.now∨n>3155932800 then(S,10)else({S with now:=n},0)
structure zi where
 what:Int
 m:bS
 n:Int
def zi.pv(o:zi):PV:=.agg [.int .i64 o.what,.int .i64 o.m.source,.int .i64 o.m.seq,.int .i64 o.m.fO,.int .i64 o.m.dz,.int .i64 o.m.kind,.str o.m.aZ,.int .i64 o.m.day,.int .i64 o.m.inst,.int .i64 o.m.call,.int .i64 o.m.cA,.int .i64 o.m.aY,.bool o.m.free,.rs 5 (o.m.calls.map ai.pv),.int .i64 o.n]
def LS.step(S:LS)(o:zi):LS×Int:=if o.what=0 then S.rcv o.m else if o.what=1 then S.afM o.n else S.adv o.n
def LS.L7(S:LS)(l:List zi):LS:=l.foldl (fun S o=>(S.step o).1) S
structure LS.Inv(S:LS)(n:Nat):Prop where
 iX:S.iX.length≤8
 kept:S.kept.length≤n
 now:0≤S.now∧S.now≤3155932800
 msg:∀m∈S.kept,m.Ok∧m.calls.length≤40∧gb m=0
theorem Ov(S:LS)(m:bS):(S.rest m).length≤S.kept.length:=aob _ _
theorem Ow(l:List Src)(i:Nat)(f:Src→Src):(Jo l i f).length=l.length:=by unfold Jo;cases l[i]? <;>simp
variable{S:LS}
theorem Tf{m:bS}(h:S.L6 m=0):gb m=0∧m.source<(S.iX.length:Int)∧m.dz>S.now:=by unfold LS.L6 at h;grind
theorem Yx(h:S.Inv n)(o:zi)(ho:o.m.Ok∧o.m.calls.length≤40):(S.step o).1.Inv (n+1)∧(S.step o).1.N=S.N∧(S.step o).1.pat=S.pat:=by
 have hk:=h.kept;have Yy:S.Inv (n+1):=⟨h.iX,by omega,h.now,h.msg⟩;unfold LS.step;split
 ·unfold LS.rcv;split
  ·exact⟨Yy,rfl,rfl⟩
  ·rename_i hr;split
   ·exact⟨Yy,rfl,rfl⟩
   ·refine⟨⟨?_,?_,h.now,fun m hm=>?_⟩,rfl,rfl⟩
    ·show(Jo _ _ _).length≤8;rw[Ow];exact h.iX
    ·show(S.rest o.m++[o.m]).length≤_;have:=Ov S o.m;simp;omega
    ·have hm:m∈S.rest o.m++[o.m]:=hm;rcases anO.1 hm with hm|hm
     ·exact h.msg m (anP.1 hm).1
     ·rw[aoq]at hm;subst hm;exact⟨ho.1,ho.2,(Tf (S:=S) (Decidable.not_not.1 hr)).1⟩
 ·split
  ·unfold LS.afM;split
   ·exact⟨Yy,rfl,rfl⟩
   ·split
    ·exact⟨Yy,rfl,rfl⟩
    ·refine⟨⟨?_,by show S.kept.length≤_;omega,h.now,h.msg⟩,rfl,rfl⟩;show(Jo _ _ _).length≤8;rw[Ow];exact h.iX
  ·unfold LS.adv;split
   ·exact⟨Yy,rfl,rfl⟩
   ·exact⟨⟨h.iX,by show S.kept.length≤_;omega,by have:=h.now;show 0≤o.n∧o.n≤_;omega,h.msg⟩,rfl,rfl⟩
theorem Yz:∀(l:List zi){S:LS}{n:Nat},S.Inv n→(∀o∈l,o.m.Ok∧o.m.calls.length≤40)→(S.L7 l).Inv (n+l.length)∧(S.L7 l).N=S.N∧(S.L7 l).pat=S.pat:=by
 intro l;induction l with
 |nil=>intro S n h _;exact⟨h,rfl,rfl⟩
 |cons o l ih=>
  intro S n h ho;obtain⟨h1,h2,h3⟩:=Yx h o (ho o (by simp));obtain⟨k1,k2,k3⟩:=ih h1 (fun x hx=>ho x (by simp[hx]));refine⟨?_,k2.trans h2,k3.trans h3⟩;have:n+(o::l).length=n+1+l.length:=by simp;omega
  rw[this];exact k1
theorem Vv(S:LS)(l:List zi)(k:Nat)(hk:k<l.length):S.L7 (l.take (k+1))=((S.L7 (l.take k)).step l[k]).1:=by unfold LS.L7;rw[anw hk,List.foldl_append];rfl
theorem YA{l:List bS}{m x:bS}(h:x∈Vt l m):x∈l∨x=m:=by
 unfold Vt at h;simp only[anO,aoq]at h;rcases h with(h|h)|h
 ·exact .inl (aox h)
 ·exact .inr h
 ·exact .inl (ao3 h)
theorem YB(l:List bS)(m:bS):(Vt l m).length=l.length+1:=by unfold Vt;simp only[anD,an9,ape,apm];omega
theorem Kt(l:List bS)(k:Nat)(hk:k<l.length):Jn l (k+1)=Vu l (Jn l k) l[k]:=by unfold Jn;rw[anw hk,List.foldl_append];rfl
theorem Ox(l:List bS):∀k,k≤l.length→(Jn l k).length≤k∧∀x∈Jn l k,x∈l:=by
 intro k;induction k with
 |zero=>intro _;exact⟨by simp[Jn],by simp[Jn]⟩
 |succ k ih=>
  intro hk;obtain⟨h1,h2⟩:=ih (by omega);rw[Kt l k hk];unfold Vu;split
  ·exact⟨by omega,h2⟩
  ·refine⟨by rw[YB];omega,fun x hx=>?_⟩;rcases YA hx with hx|hx
   ·exact h2 x hx
   ·subst hx;exact agZ _
theorem YC(h:S.Inv n)(t:Int):(S.act t).length≤n∧∀m∈S.act t,m.Ok∧m.calls.length≤40∧gb m=0:=by obtain⟨h1,h2⟩:=Ox (S.cur t) (S.cur t).length (anz _);have h3:(S.cur t).length≤S.kept.length:=aob _ _;have:=h.kept;exact⟨by unfold LS.act;omega,fun m hm=>h.msg m (anP.1 (h2 m hm)).1⟩
theorem Tg(h:S.Inv n):S.cur 3155932800=[]:=by
 unfold LS.cur;rw[List.filter_eq_nil_iff];intro m hm;obtain⟨_,_,he⟩:=h.msg m hm;have:m.dz≤3155932800:=by unfold gb wi at he;grind
 unfold LS.Jm;try dsimp only
 simp only[OF,te,not_and];intro h1;omega
theorem afN{α:Type}(a b:α):(bif false then a else b)=b:=rfl
theorem Fj(S:LS)(i:Int):dP [S.box,.int .i64 i]=some (.bool (S.Rm i)):=by
 unfold dP nd;refine(pcE rfl (by exact anz _)).trans ?_;iterate 4 refine(bs rfl).trans ?_
 try dsimp only
 simp only[bL,U,By];rfl
theorem Oy(s:Src)(t p:Int):gO [.rp [.bool s.L5,.int .i64 s.last,.bool s.recv,.int .i64 s.seq],.int .i64 t,.int .i64 p]=some (.bool (s.Rl t p)):=by
 unfold gO nf;refine(pcE rfl (by simp)).trans ?_;iterate 4 refine(bs rfl).trans ?_
 try dsimp only
 simp only[bL,aT,U];rfl
theorem Oz(S:LS)(i t:Int):db [S.box,.int .i64 i,.int .i64 t]=some (.bool (S.Yw i t)):=by
 unfold db ng;refine(pcE rfl (by exact anz _)).trans ?_;iterate 5 refine(bs rfl).trans ?_
 refine(bs (Fj S i)).trans ?_;refine(bs rfl).trans ?_;unfold LS.Yw;cases hs:S.Rm i with
 |false=>rfl
 |true=>
  unfold LS.Rm at hs;try dsimp only
  simp only[OF,te]at hs;obtain⟨k,rfl⟩:∃k:Nat,i=k:=⟨i.toNat,by omega⟩;have hk:k<S.iX.length:=by omega
  refine(bs (a:=(S.iX[k]).Rl t S.pat) ((wJ rfl).trans ?_)).trans ?_
  ·try dsimp only
   rw[af,AT,ta hk];refine(bs rfl).trans ?_;refine(bs (Oy _ _ _)).trans ?_;rfl
  ·rw[agY,ta hk];rfl
theorem HO(a b:bS):dQ [a.pv,b.pv]=some (.bool (Fi a b)):=by
 unfold dQ nh;iterate 28 refine(bs rfl).trans ?_
 try dsimp only
 simp only[bL,U];rfl
theorem Vw(k:Int):lF [.int .i64 k]=some (.bool (Yv k)):=by unfold lF tG Yv;refine(bs rfl).trans ?_;cases k==2<;>cases k==4<;>cases k==5<;>cases k==6<;>rfl
theorem YD(a b:bS):gP [a.pv,b.pv]=some (.bool (sup a b)):=by
 unfold gP ni;iterate 28 refine(bs rfl).trans ?_
 refine(bs (a:=a.source==b.source&&Fi a b) ?_).trans ?_
 ·cases a.source==b.source with
  |false=>rfl
  |true=>refine(wJ rfl).trans ?_;refine(bs (HO a b)).trans ?_;rfl
 ·try dsimp only
  rw[bL];refine(bs rfl).trans ?_;refine(bs (a:=sup a b) ?_).trans rfl;unfold sup;cases(a.source==b.source&&Fi a b&&decide (a.seq>b.seq))with
  |false=>rfl
  |true=>
   refine(wJ rfl).trans ?_;refine(bs (Vw a.kind)).trans ?_;refine(bs rfl).trans ?_;try dsimp only
   simp only[bL,aT,U,aoB]
theorem YE(a b:bS):kU [a.pv,b.pv]=some (.bool (DP a b)):=by
 unfold kU xD DP;iterate 28 refine(bs rfl).trans ?_
 try dsimp only
 by_cases h1:(!a.aZ==b.aZ)=true
 ·try dsimp only
  rw[BY h1,BY h1]
 ·rw[IT h1,IT h1];by_cases h2:(a.day !=b.day)=true
  ·try dsimp only
   rw[BY h2,BY h2]
  ·rw[IT h2,IT h2];by_cases h3:(a.inst !=b.inst)=true
   ·try dsimp only
    rw[BY h3,BY h3]
   ·rw[IT h3,IT h3]
theorem YF(S:LS)(m:bS)(hm:m.Ok):gn [S.box,m.pv,.int .i64 S.now]=some (.int .i64 (S.L6 m)):=by
 unfold gn l6 LS.L6;refine(pcE rfl (by exact anz _)).trans ?_;iterate 18 refine(bs rfl).trans ?_
 try dsimp only
 rw[aT,U];by_cases h1:S.now<0∨S.now>3155932800
 ·try dsimp only
  rw[BY (by simpa using h1),BY h1]
 ·rw[IT (by simpa using h1),IT h1];refine(bs (OA m hm)).trans ?_;refine(bs rfl).trans ?_;by_cases h2:gb m≠0
  ·try dsimp only
   rw[BY (by simpa using h2),BY h2]
  ·rw[IT (by simpa using h2),IT h2,By];by_cases h3:m.source≥(S.iX.length:Int)
   ·try dsimp only
    rw[BY (by simpa using h3),BY h3]
   ·have h0:0≤m.source:=by
     have h4:gb m=0:=by simpa using h2
     unfold gb wi at h4;grind
    rw[IT (by simpa using h3),IT h3];obtain⟨k,hk⟩:∃k:Nat,m.source=k:=⟨m.source.toNat,by omega⟩;try dsimp only
    rw[hk,agY,af,AT,ta (show k<S.iX.length by omega)];iterate 2 refine(bs rfl).trans ?_
    rw[show(bif (S.iX[k]'(by omega)).recv then(Ab.asInt .i64 (cell (S.iX[k]'(by omega)).pv 3)).bind fun n42=>some (decide (m.seq≤n42))else some false)=some ((S.iX[k]'(by omega)).recv&&decide (m.seq≤(S.iX[k]'(by omega)).seq)) by cases(S.iX[k]'(by omega)).recv<;>rfl];refine(bs rfl).trans ?_;try dsimp only
    rw[aT,U];simp only[No,anY];split<;>rfl
section
variable {S R:Type} {body:S→(S→Option R)→Option R}
variable{r:Option R}{s0:S}
theorem Aw(st:Nat→List PV→S)(l:List bS)(p:bS→Bool)(q7:∀k acc rec,(hk:k<l.length)→acc.length≤k→body (st k acc) rec=rec (st (k+1) (if p l[k]=true then acc++[l[k].pv]else acc)))(lZ:∀rec,body (st l.length ((l.filter p).map bS.pv)) rec=r)(hl:l.length<rounds)(h0:st 0 []=s0):bd.run body s0=r:=by
 refine bh (fun k=>st k (((l.take k).filter p).map bS.pv)) l.length (fun k hk rec=>?_) (fun rec=>?_) hl (by simpa using h0)
 ·try dsimp only
  rw[q7 k _ rec hk (by rw[By];exact anW (aob _ _) (by simp;omega)),anw hk,aoG];by_cases h:p l[k]=true
  ·try dsimp only
   rw[BY h,aqn h,anU];rfl
  ·rw[IT h,aqj h];simp
 ·rw[aoe];exact lZ rec
theorem YG(st:Int→S)(l:List bS)(m:bS)(fin:Nat→Option R)(h0:∀rec,body (st 0) rec=fin 0)(hs:∀k rec,(hk:k<l.length)→body (st ((k+1:Nat):Int)) rec=if DP m l[k]=true then rec (st (k:Int))else fin (k+1))(hl:l.length<rounds)(he:st (l.length:Int)=s0):bd.run body s0=fin (Ou l m l.length):=by
 have:∀k,k≤l.length→∀fu,k<fu→bX body fu (st (k:Int))=fin (Ou l m k):=by
  intro k;induction k with
  |zero=>intro _ fu hf;obtain⟨fu,rfl⟩:∃f,fu=f+1:=⟨fu-1,by omega⟩;rw[bX];exact h0 _
  |succ k ih=>
   intro hk fu hf;obtain⟨fu,rfl⟩:∃f,fu=f+1:=⟨fu-1,by omega⟩;rw[bX,hs k _ (by omega)];unfold Ou;rw[ta (show k<l.length by omega)];simp only[No,anY];split
   ·exact ih (by omega) fu (by omega)
   ·rfl
 rw[←he,lv];exact this l.length (anz _) rounds hl
theorem Vx(st:Bool→Nat→S)(l:List bS)(m:bS)(q7:∀k b rec,(hk:k<l.length)→body (st b k) rec=rec (st (b||(decide (l[k].source<m.source)&&Fi l[k] m)) (k+1)))(lZ:∀rec,body (st (Ks l m) l.length) rec=r)(hl:l.length<rounds)(h0:st false 0=s0):bd.run body s0=r:=by
 refine bh (fun k=>st (Ks (l.take k) m) k) l.length (fun k hk rec=>?_) (fun rec=>?_) hl (by simpa[Ks]using h0)
 ·rw[q7 k _ rec hk,anw hk];unfold Ks;rw[ap2];simp
 ·rw[aoe,lZ]
theorem YH(st:List PV→Nat→S)(l:List bS)(q7:∀k out rec,(hk:k<l.length)→out.length≤k→body (st (out.map bS.pv) k) rec=rec (st ((Vu l out l[k]).map bS.pv) (k+1)))(lZ:∀rec,body (st ((Jn l l.length).map bS.pv) l.length) rec=r)(hl:l.length<rounds)(h0:st [] 0=s0):bd.run body s0=r:=by refine bh (fun k=>st ((Jn l k).map bS.pv) k) l.length (fun k hk rec=>?_) (fun rec=>lZ rec) hl h0;rw[q7 k _ rec hk (Ox l k (by omega)).1,←Kt l k hk]
end
theorem uN(l:List PV)(h:l.length≤1000):l.length*128≤aa∧0<128:=by
 have:1000*128≤aa:=by decide
 exact⟨by omega,by decide⟩
theorem HP(l:List PV)(h:l.length≤1000):l.length*32≤aa∧0<32:=by
 have:1000*32≤aa:=by decide
 exact⟨by omega,by decide⟩
theorem Th(l:List Src)(i:Nat)(f:Src→Src)(h:i<l.length):(Jo l i f).map Src.pv=(l.map Src.pv).set i (f l[i]).pv:=by unfold Jo;rw[ta h];simp
theorem YI(l:List PV)(i:Nat)(x:PV)(h:l[i]?=some x):l.set i x=l:=by obtain⟨hi,rfl⟩:=IN.1 h;exact aqA hi
theorem Vy{R:Type}(l:List Src)(i:Nat)(hi:i<l.length)(t:Int)(K:List PV→Option R):((l.map Src.pv)[i]?.bind fun e=>(Ab.asBool (cell e 0)).bind fun b=>(bif !b then some true else(l.map Src.pv)[i]?.bind fun e=>(Ab.asInt .i64 (cell e 1)).bind fun n=>some (decide (t>n))).bind fun r=>if r=true then
  (l.map Src.pv)[i]?.bind fun e=>((l.map Src.pv).set i (.agg (.bool true::over [] [cell e 1,cell e 2,cell e 3])))[i]?.bind fun e2=>K (((l.map Src.pv).set i (.agg (.bool true::over [] [cell e 1,cell e 2,cell e 3]))).set i (.agg (cell e2 0::.int .i64 t::over [] [cell e2 2,cell e2 3])))
  else K (l.map Src.pv))=K ((Jo l i fun s=>s.Yu t).map Src.pv):=by
 have h1:(l.map Src.pv)[i]?=some l[i].pv:=by simp[hi]
 rw[Th l i _ hi];simp only[h1,U];refine(bs (a:=l[i].L5) rfl).trans ?_;refine(bs (a:=l[i].HN t) ?_).trans ?_
 ·unfold Src.HN;cases l[i].L5<;>rfl
 ·unfold Src.Yu;by_cases h:l[i].HN t=true
  ·try dsimp only
   rw[BY h,BY h,HQ _ _ _ (by simpa using hi)];refine(bs rfl).trans ?_;rw[aoS];rfl
  ·try dsimp only
   rw[IT h,IT h,YI _ _ _ h1]
theorem YJ{R:Type}(l:List Src)(i:Nat)(hi:i<l.length)(t q:Int)(g:PV)(hg:Ab.asInt .i64 g=some q)(K:List PV→Option R):((l.map Src.pv)[i]?.bind fun e=>(Ab.asBool (cell e 0)).bind fun b=>(bif !b then some true else(l.map Src.pv)[i]?.bind fun e=>(Ab.asInt .i64 (cell e 1)).bind fun n=>some (decide (t>n))).bind fun r=>if r=true then
  (l.map Src.pv)[i]?.bind fun e=>((l.map Src.pv).set i (.agg (.bool true::over [] [cell e 1,cell e 2,cell e 3])))[i]?.bind fun e2=>(Ab.asInt .i64 g).bind fun n=>
   (((l.map Src.pv).set i (.agg (.bool true::over [] [cell e 1,cell e 2,cell e 3]))).set i (.agg (cell e2 0::.int .i64 t::over [] [cell e2 2,cell e2 3])))[i]?.bind fun e3=>
   ((((l.map Src.pv).set i (.agg (.bool true::over [] [cell e 1,cell e 2,cell e 3]))).set i (.agg (cell e2 0::.int .i64 t::over [] [cell e2 2,cell e2 3]))).set i (.agg (cell e3 0::cell e3 1::.bool true::over [] [cell e3 3])))[i]?.bind fun e4=>
   K (((((l.map Src.pv).set i (.agg (.bool true::over [] [cell e 1,cell e 2,cell e 3]))).set i (.agg (cell e2 0::.int .i64 t::over [] [cell e2 2,cell e2 3]))).set i (.agg (cell e3 0::cell e3 1::.bool true::over [] [cell e3 3]))).set i (.agg (cell e4 0::cell e4 1::cell e4 2::.int .i64 n::over [] [])))
  else(Ab.asInt .i64 g).bind fun n=>(l.map Src.pv)[i]?.bind fun e=>((l.map Src.pv).set i (.agg (cell e 0::cell e 1::.bool true::over [] [cell e 3])))[i]?.bind fun e2=>K (((l.map Src.pv).set i (.agg (cell e 0::cell e 1::.bool true::over [] [cell e 3]))).set i (.agg (cell e2 0::cell e2 1::cell e2 2::.int .i64 n::over [] []))))=K ((Jo l i fun s=>s.got t q).map Src.pv):=by
 have h1:(l.map Src.pv)[i]?=some l[i].pv:=by simp[hi]
 rw[Th l i _ hi];simp only[h1,hg,U];have hs:∀x:PV,((l.map Src.pv).set i x)[i]?=some x:=fun x=>HQ _ _ _ (by simpa using hi);refine(bs (a:=l[i].L5) rfl).trans ?_;refine(bs (a:=l[i].HN t) ?_).trans ?_
 ·unfold Src.HN;cases l[i].L5<;>rfl
 ·unfold Src.got Src.Yu;by_cases h:l[i].HN t=true
  ·try dsimp only
   rw[BY h,BY h,hs];refine(bs rfl).trans ?_;rw[aoS,hs];refine(bs rfl).trans ?_;rw[aoS,hs];refine(bs rfl).trans ?_;rw[aoS];rfl
  ·try dsimp only
   rw[IT h,IT h,hs];refine(bs rfl).trans ?_;rw[aoS];rfl
theorem uB(a b:List ai)(ha:a.length≤maxLen):eW [.rs 5 (a.map ai.pv),.rs 5 (b.map ai.pv)]=some (.bool (decide (a=b))):=by
 have hm:=aL;simp only[eW,jI,ak,IS,U,By];by_cases h:a.length=b.length
 ·try dsimp only
  rw[IT (by rw[uO];simp[h])];refine(aO (fun k=>(a.map ai.pv,b.map ai.pv,(a.length:Int),(k:Int),())) a.length (fun k=>if a[k]?=b[k]? then none else some (some (PV.bool false))) (fun k hk rec=>?_) (fin:=some (PV.bool true)) (fun rec=>?_) (by have:=aN;omega) rfl).trans ?_
  ·have h1:decide ((k:Int)<(a.length:Int))=true:=by simp;omega
   have nM:k<b.length:=by omega
   unfold gA;dsimp only;try rw[By]
   rw[BY h1,af,af,AT,AT,ta hk,ta nM];simp only[No,U];rw[BY ⟨rfl,rfl⟩,ai.peq,ah (by omega)];by_cases he:a[k]=b[k]
   ·simp[he,bP]
   ·simp[he,bP]
  ·unfold gA;dsimp only;rw[IT (by simp)]
  ·exact(qF a b h (some (PV.bool false)) (some (PV.bool true))).trans L8
 ·try dsimp only
  rw[BY (by rw[uO];simp[h])];have:a≠b:=fun e=>h (by rw[e]);simp[this]
def Jp(A B:ay)(k:Nat):Bool:=decide (A.runs[k]?≠B.runs[k]?)
def HR(A B:ay)(n:Nat):List Nat:=(List.range n).filter (Jp A B)
theorem Vz(A B:ay)(k:Nat):HR A B (k+1)=if Jp A B k=true then HR A B k++[k]else HR A B k:=by unfold HR;rw[aot,aoG];by_cases h:Jp A B k=true<;>simp[h]
theorem YK(A B:ay)(k:Nat):(HR A B k).length≤k:=by unfold HR;exact anW (aob _ _) (by simp)
def YM(k:Nat):PV:=.int .i64 k
def mx(A B:ay):Nat:=max A.runs.length B.runs.length
theorem VA(x y:aX)(hx:x.calls.length≤maxLen):oR [x.pv,y.pv]=some (.bool (decide (x=y))):=by have hc:=uB x.calls y.calls hx;simp only[oR,xE,afO,L9,HS,Ma,OB,VB,YN,YO,FX,U];simp only[asInt,bt,asBool,ak,IS,U,hc,bL,aT,dY,gd,Ti];generalize decide (x.aZ=y.aZ)=a1;generalize decide (x.day=y.day)=a2;generalize decide (x.inst=y.inst)=a3;generalize decide (x.id=y.id)=a4;generalize decide (x.aY=y.aY)=a5;generalize decide (x.rr=y.rr)=a7;generalize decide (x.calls=y.calls)=a8;generalize decide (x.free=y.free)=a6;cases a1<;>cases a2<;>cases a3<;>cases a4<;>rfl
theorem Mb(A B:ay)(hA:A.runs.length≤3000∧∀x∈A.runs,x.calls.length≤maxLen)(hB:B.runs.length≤3000):kj [A.pv,B.pv]=some (.rs 1 ((HR A B (mx A B)).map YM)):=by
 have hrn:3003<rounds:=by decide
 simp only[kj,rL,BQ,BR,BS,BT,BU,BV,BW,BX,BZ,B0,U,By];refine bh (fun k=>(((mx A B:Nat):Int),(k:Int),A.stops.map Stop.pv,A.ae.map az.pv,A.runs.map aX.pv,A.ar.map aD.pv,A.paths.map Path.pv,A.av.map aS.pv,A.aQ,A.within,A.cap,B.stops.map Stop.pv,B.ae.map az.pv,B.runs.map aX.pv,B.ar.map aD.pv,B.paths.map Path.pv,B.av.map aS.pv,B.aQ,B.within,B.cap,(HR A B k).map YM,())) (mx A B) (fun k hk rec=>?_) (fun rec=>?_) (by unfold mx;omega) ?_
 ·have hl:=YK A B k;have hm:k<3000:=by unfold mx at hk;omega
  have cr:((HR A B k).map YM++[PV.int .i64 (k:Int)]).length*8≤aa∧0<8:=Tj _ (by simp;omega) _;have cy:∀x:aX,PV.agg [cell x.pv 0,cell x.pv 1,cell x.pv 2,cell x.pv 3,cell x.pv 4,cell x.pv 5,cell x.pv 6,cell x.pv 7]=x.pv:=afP;unfold nj;dsimp only;rw[BY (by rw[te];omega)];simp only[By,aT,af,AT,ah (show k<9223372036854775807 by omega),Vz];by_cases ha:k<A.runs.length
  ·by_cases hb:k<B.runs.length
   ·have hs:=VA A.runs[k] B.runs[k] (hA.2 _ (agZ ha));rw[show(decide ((k:Int)≥(A.runs.length:Int))||decide ((k:Int)≥(B.runs.length:Int)))=false by rw[apI (by omega),apI (by omega)];rfl];simp only[U,cond_false,ta ha,ta hb,No,afP,hs,asBool];have hd:Jp A B k= !decide (A.runs[k]=B.runs[k]):=by unfold Jp;rw[ta ha,ta hb];simp
    rw[hd];by_cases he:A.runs[k]=B.runs[k]
    ·simp[he]
    ·try dsimp only
     simp only[he,anJ,anM,IS,BY cr,anU];rfl
   ·have hd:Jp A B k=true:=by unfold Jp;rw[ta ha,aoE (by omega)];simp
    try dsimp only
    rw[show(decide ((k:Int)≥(A.runs.length:Int))||decide ((k:Int)≥(B.runs.length:Int)))=true by rw[aoR (show(k:Int)≥(B.runs.length:Int) by omega)];simp,hd];simp only[U,cond_true,IS,BY cr,anU];rfl
  ·have hd:Jp A B k=true:=by
    unfold Jp;have hb:k<B.runs.length:=by unfold mx at hk;omega
    rw[ta hb,aoE (by omega)];simp
   rw[show(decide ((k:Int)≥(A.runs.length:Int))||decide ((k:Int)≥(B.runs.length:Int)))=true by rw[aoR (show(k:Int)≥(A.runs.length:Int) by omega)];simp,hd];simp only[U,cond_true,IS,BY cr,anU];rfl
 ·unfold nj;dsimp only;rw[IT (by simp)]
 ·have:(if(B.runs.length:Int)>(A.runs.length:Int)then(B.runs.length:Int)else(A.runs.length:Int))=((mx A B:Nat):Int):=by unfold mx;split<;>omega
  rw[this];rfl
theorem YP(N:ay):HR N N (mx N N)=[]:=by unfold HR Jp;simp
theorem uP{k:Nat}(h:k<10000):IntKind.i64.wrap ((k:Int)+1)=((k+1:Nat):Int):=ah (by omega)
theorem CZ(p:PV):Xf p p=true:=HD p
def LS.net(S:LS)(t:Int):ay:=(OC S.N [] (S.act t)).1
theorem bA(z:Nat)(es:List PV):ak z (.rs z es)=some es:=by simp[ak]
structure bl(N:ay):Prop where
 lim:WY N
 few:ade N
 val:(dZ N).2.2=0
theorem Tk:∀(l:List bS)(N:ay)(er:List Int),WY N→(dZ N).2.2=0→(∀m∈l,m.Ok)→WY (OC N er l).1∧(dZ (OC N er l).1).2.2=0
 |[],N,er,h,hv,_=>⟨h,hv⟩
 |m::l,N,er,h,hv,hm=>by have NM:=Ku (m:=m) hv;exact Tk l _ _ (OD h (OE N m) NM (hm m (by simp))) NM (fun x hx=>hm x (by simp[hx]))
theorem afQ{S:LS}{n:Nat}(h:S.Inv n)(hB:bl S.N)(t:Int):WY (S.net t)∧(dZ (S.net t)).2.2=0:=Tk _ _ _ hB.lim hB.val fun m hm=>((YC h t).2 m hm).1
theorem adf{S:LS}{n:Nat}(h:S.Inv n)(hn:n≤100)(hB:bl S.N)(t:Int):eX [S.N.pv,.rs 13 ((S.act t).map bS.pv)]=some (Tl (OC S.N [] (S.act t))):=by obtain⟨h1,h2⟩:=YC h t;exact OG S.N (S.act t) hB.lim hB.val (by omega) (fun m hm=>(h2 m hm).1) (fun m hm=>by have:=(h2 m hm).2.1;omega)
theorem all_none{N:ay}(hB:bl N):eX [N.pv,.rs 13 []]=some (.aV [N.pv,.rs 1 []]):=OG N [] hB.lim hB.val (by simp) (by simp) (by simp)
theorem OH:cB []=some (.bool true):=rfl
theorem adg{N:ay}(hB:bl N)(a0 s0 p:Int)(K P:List PV):bd.run (oS bd) ([],0,0,N.pv,N.pv,true,[],0,0,0,s0,.rs 4 (N.stops.map Stop.pv),.rs 3 (N.ae.map az.pv),.rs 8 (N.runs.map aX.pv),.rs 5 (N.ar.map aD.pv),.rs 4 (N.paths.map Path.pv),.rs 6 (N.av.map aS.pv),.int .i64 N.aQ,.int .i64 N.within,.int .i64 N.cap,a0,0,0,0,p,K,P,())=some (.bool true):=by
 have hch:=Mb N N ⟨by have:=hB.lim.runs;omega,fun r hr=>by
  have:=hB.lim.calls r hr;have:1000≤maxLen:=by decide
  omega⟩ (by have:=hB.lim.runs;omega)
 rw[YP]at hch;refine once fun rec=>?_;unfold oS;dsimp only;rw[IT (by decide),show Xf N.pv (.agg [.rs 4 (N.stops.map Stop.pv),.rs 3 (N.ae.map az.pv),.rs 8 (N.runs.map aX.pv),.rs 5 (N.ar.map aD.pv),.rs 4 (N.paths.map Path.pv),.rs 6 (N.av.map aS.pv),.int .i64 N.aQ,.int .i64 N.within,.int .i64 N.cap])=true from CZ _];refine(wJ rfl).trans ?_;refine(bs (all_none hB)).trans ?_;iterate 3 refine(bs rfl).trans ?_
 refine(bs hch).trans ?_;refine(bs rfl).trans ?_;refine(wJ rfl).trans ?_;try dsimp only
 rw[BY rfl];refine(bs (a:=true) ?_).trans rfl;refine(wJ rfl).trans ?_;refine(bs OH).trans ?_;rfl
theorem HT(S:LS)(t:Int)(m:bS):((bif decide (m.fO≤t)&&decide (m.dz>t)then(Ab.asInt .i64 (cell m.pv 0)).bind fun n=>(db [S.box,.int .i64 n,.int .i64 t]).bind fun r=>(Ab.asBool r).bind fun b=>some (!b)else some false):Option Bool)=some (S.Jm t m):=by
 unfold LS.Jm;cases decide (m.fO≤t)&&decide (m.dz>t)with
 |false=>rfl
 |true=>refine(wJ rfl).trans ?_;refine(bs rfl).trans ?_;refine(bs (Oz S _ t)).trans ?_;rfl
theorem Mc(t:Int)(m:bS):((bif decide (m.fO≤t)then(Ab.asInt .i64 (cell m.pv 3)).bind fun n=>some (decide (n>t))else some false):Option Bool)=some (decide (m.fO≤t)&&decide (m.dz>t)):=by cases decide (m.fO≤t)<;>rfl
section
variable {S:LS} {n:Nat}
def e9(N:ay):=(PV.rs 4 (N.stops.map Stop.pv),PV.rs 3 (N.ae.map az.pv))
theorem adh(h:S.Inv n)(hn:n≤100)(hB:bl S.N)(a0 s0:Int):bd.run (kn bd) (S.kept.map bS.pv,(S.kept.length:Int),0,S.N.pv,S.N.pv,true,3155932800,[],0,0,0,s0,.rs 4 (S.N.stops.map Stop.pv),.rs 3 (S.N.ae.map az.pv),.rs 8 (S.N.runs.map aX.pv),.rs 5 (S.N.ar.map aD.pv),.rs 4 (S.N.paths.map Path.pv),.rs 6 (S.N.av.map aS.pv),.int .i64 S.N.aQ,.int .i64 S.N.within,.int .i64 S.N.cap,a0,0,0,0,S.pat,S.kept.map bS.pv,S.iX.map Src.pv,())=some (.bool true):=by
 have hk:=h.kept;have Xr:=Tg h;unfold LS.cur at Xr;refine Aw (fun k acc=>(S.kept.map bS.pv,(S.kept.length:Int),(k:Int),S.N.pv,S.N.pv,true,3155932800,acc,0,0,0,s0,.rs 4 (S.N.stops.map Stop.pv),.rs 3 (S.N.ae.map az.pv),.rs 8 (S.N.runs.map aX.pv),.rs 5 (S.N.ar.map aD.pv),.rs 4 (S.N.paths.map Path.pv),.rs 6 (S.N.av.map aS.pv),.int .i64 S.N.aQ,.int .i64 S.N.within,.int .i64 S.N.cap,a0,0,0,0,S.pat,S.kept.map bS.pv,S.iX.map Src.pv,())) S.kept (S.Jm 3155932800) (fun k acc rec hk ha=>?_) (fun rec=>?_) (lE (by omega)) rfl
 ·unfold kn;dsimp only;rw[BY (by rw[te];omega),af,AT,ta hk];refine(bs rfl).trans ?_;refine(bs rfl).trans ?_;refine(bs (Mc _ _)).trans ?_;refine(bs (HT S _ _)).trans ?_;by_cases hc:S.Jm 3155932800 S.kept[k]=true
  ·try dsimp only
   rw[BY hc,BY hc];refine(bs (bA 5 _)).trans ?_;have hm:=(h.msg _ (agZ hk)).2.1;rw[BY (HP _ (by simp;omega)),BY (uN _ (by simp;omega)),uP (by omega)];rfl
  ·try dsimp only
   rw[IT hc,IT hc,uP (by omega)]
 ·unfold kn;dsimp only;rw[IT (by simp),Xr];exact adg hB _ _ _ _ _
theorem YQ(h:S.Inv n)(hn:n≤100)(hB:bl S.N)(s0:Int):bd.run (nk bd) ([],0,0,S.N.pv,[],0,0,0,s0,.rs 4 (S.N.stops.map Stop.pv),.rs 3 (S.N.ae.map az.pv),.rs 8 (S.N.runs.map aX.pv),.rs 5 (S.N.ar.map aD.pv),.rs 4 (S.N.paths.map Path.pv),.rs 6 (S.N.av.map aS.pv),.int .i64 S.N.aQ,.int .i64 S.N.within,.int .i64 S.N.cap,3155932800,0,0,0,S.pat,S.kept.map bS.pv,S.iX.map Src.pv,())=some (.bool true):=by
 have qB:=B1 S.N hB.few;have e1:=VC S.N S.N hB.lim.ok;rw[YR]at e1;have hlen:=By (as:=S.kept) bS.pv;refine once fun rec=>?_;unfold nk;dsimp only;rw[IT (by decide),show Xf S.N.pv (.agg [.rs 4 (S.N.stops.map Stop.pv),.rs 3 (S.N.ae.map az.pv),.rs 8 (S.N.runs.map aX.pv),.rs 5 (S.N.ar.map aD.pv),.rs 4 (S.N.paths.map Path.pv),.rs 6 (S.N.av.map aS.pv),.int .i64 S.N.aQ,.int .i64 S.N.within,.int .i64 S.N.cap])=true from CZ _];refine(wJ rfl).trans ?_;refine(bs (all_none hB)).trans ?_;iterate 3 refine(bs rfl).trans ?_
 refine(bs qB).trans ?_;refine(bs rfl).trans ?_;refine(bs e1).trans ?_;refine(bs rfl).trans ?_;refine(wJ rfl).trans ?_;rw[hlen];exact adh h hn hB _ _
theorem YS(h:S.Inv n)(hn:n≤100)(hB:bl S.N)(s0:Int):bd.run (jJ bd) (S.kept.map bS.pv,(S.kept.length:Int),0,S.N.pv,3155932800,[],0,0,0,s0,.rs 4 (S.N.stops.map Stop.pv),.rs 3 (S.N.ae.map az.pv),.rs 8 (S.N.runs.map aX.pv),.rs 5 (S.N.ar.map aD.pv),.rs 4 (S.N.paths.map Path.pv),.rs 6 (S.N.av.map aS.pv),.int .i64 S.N.aQ,.int .i64 S.N.within,.int .i64 S.N.cap,3155932800,0,0,0,S.pat,S.kept.map bS.pv,S.iX.map Src.pv,())=some (.bool true):=by
 have hk:=h.kept;have Xr:=Tg h;unfold LS.cur at Xr;refine Aw (fun k acc=>(S.kept.map bS.pv,(S.kept.length:Int),(k:Int),S.N.pv,3155932800,acc,0,0,0,s0,.rs 4 (S.N.stops.map Stop.pv),.rs 3 (S.N.ae.map az.pv),.rs 8 (S.N.runs.map aX.pv),.rs 5 (S.N.ar.map aD.pv),.rs 4 (S.N.paths.map Path.pv),.rs 6 (S.N.av.map aS.pv),.int .i64 S.N.aQ,.int .i64 S.N.within,.int .i64 S.N.cap,3155932800,0,0,0,S.pat,S.kept.map bS.pv,S.iX.map Src.pv,())) S.kept (S.Jm 3155932800) (fun k acc rec hk ha=>?_) (fun rec=>?_) (lE (by omega)) rfl
 ·unfold jJ;dsimp only;rw[BY (by rw[te];omega),af,AT,ta hk];refine(bs rfl).trans ?_;refine(bs rfl).trans ?_;refine(bs (Mc _ _)).trans ?_;refine(bs (HT S _ _)).trans ?_;by_cases hc:S.Jm 3155932800 S.kept[k]=true
  ·try dsimp only
   rw[BY hc,BY hc];refine(bs (bA 5 _)).trans ?_;have hm:=(h.msg _ (agZ hk)).2.1;rw[BY (HP _ (by simp;omega)),BY (uN _ (by simp;omega)),uP (by omega)];rfl
  ·try dsimp only
   rw[IT hc,IT hc,uP (by omega)]
 ·unfold jJ;dsimp only;rw[IT (by simp),Xr];exact YQ h hn hB _
end
section
variable {S:LS} {n:Nat}
theorem Tm(l:List bS)(m:bS)(k:Nat)(hk:k≤l.length)(hl:l.length≤500){R:Type}(K:List PV→Option R):(if(0:Int)≤0∧0≤(k:Int)∧(k:Int)≤((l.map bS.pv).length:Int)∧13=13∧13≠0 then
  if(([]:List PV)++List.drop (Int.toNat 0) (List.take (k:Int).toNat (l.map bS.pv))).length*128≤aa∧0<128 then
   if(([]:List PV)++List.drop (Int.toNat 0) (List.take (k:Int).toNat (l.map bS.pv))++[m.pv]).length*128≤aa∧0<128 then
    if 0≤(k:Int)∧(k:Int)≤((l.map bS.pv).length:Int)∧((l.map bS.pv).length:Int)≤((l.map bS.pv).length:Int)∧13=13∧13≠0 then
     if(([]:List PV)++List.drop (Int.toNat 0) (List.take (k:Int).toNat (l.map bS.pv))++[m.pv]++List.drop (k:Int).toNat (List.take ((l.map bS.pv).length:Int).toNat (l.map bS.pv))).length*128≤aa∧0<128 then K (([]:List PV)++List.drop (Int.toNat 0) (List.take (k:Int).toNat (l.map bS.pv))++[m.pv]++List.drop (k:Int).toNat (List.take ((l.map bS.pv).length:Int).toNat (l.map bS.pv)))
     else none
    else none
   else none
  else none
 else none)=K ((l.take k++[m]++l.drop k).map bS.pv):=by
 have e:([]:List PV)++List.drop (Int.toNat 0) (List.take (k:Int).toNat (l.map bS.pv))++[m.pv]++List.drop (k:Int).toNat (List.take ((l.map bS.pv).length:Int).toNat (l.map bS.pv))=(l.take k++[m]++l.drop k).map bS.pv:=by have e2:List.take l.length (l.map bS.pv)=l.map bS.pv:=anZ (by simp);simp[aps,aqO,e2]
 rw[BY (by simp;omega),BY (uN _ (by simp;omega)),BY (uN _ (by simp;omega)),BY (by simp;omega),e,BY (uN _ (by simp;omega))]
theorem adi(uQ:_→Option PV)(c d:Int)(ag:PV)(m:bS)(out:List bS)(ho:out.length≤500)(cu:List PV)(a1 a2 a3 s0:Int)(x1 x2 x3 x4 x5 x6 x7 x8 x9:PV)(nw b1 b2 b3 p:Int)(kp sr:List PV):bd.run (ko bd uQ) (out.map bS.pv,((out.map bS.pv).length:Int),c,d,ag,.int .i64 m.source,.int .i64 m.seq,.int .i64 m.fO,.int .i64 m.dz,.int .i64 m.kind,.str m.aZ,.int .i64 m.day,.int .i64 m.inst,.int .i64 m.call,.int .i64 m.cA,.int .i64 m.aY,.bool m.free,.rs 5 (m.calls.map ai.pv),cu,a1,a2,a3,s0,x1,x2,x3,x4,x5,x6,x7,x8,x9,nw,b1,b2,b3,p,kp,sr,())=uQ ((Vt out m).map bS.pv,c,IntKind.i64.wrap (d+1),ag,cu,a1,a2,a3,s0,x1,x2,x3,x4,x5,x6,x7,x8,x9,nw,b1,b2,b3,p,kp,sr,()):=by
 have hki:∀k,k≤out.length→Ou out m k≤k:=by
  intro k;induction k with
  |zero=>intro _;exact anz _
  |succ k ih=>
   intro hk;unfold Ou;split
   ·have:=ih (by omega);omega
   ·exact anz _
 refine(YG (fun k=>(out.map bS.pv,k,c,d,ag,.int .i64 m.source,.int .i64 m.seq,.int .i64 m.fO,.int .i64 m.dz,.int .i64 m.kind,.str m.aZ,.int .i64 m.day,.int .i64 m.inst,.int .i64 m.call,.int .i64 m.cA,.int .i64 m.aY,.bool m.free,.rs 5 (m.calls.map ai.pv),cu,a1,a2,a3,s0,x1,x2,x3,x4,x5,x6,x7,x8,x9,nw,b1,b2,b3,p,kp,sr,())) out m (fun k=>if k≤out.length then uQ ((out.take k++[m]++out.drop k).map bS.pv,c,IntKind.i64.wrap (d+1),ag,cu,a1,a2,a3,s0,x1,x2,x3,x4,x5,x6,x7,x8,x9,nw,b1,b2,b3,p,kp,sr,())else none) (fun rec=>?_) (fun k rec hk=>?_) (lE (by omega)) (by rw[By])).trans ?_
 ·unfold ko;dsimp only;refine(bs (a:=false) rfl).trans ?_;try dsimp only
  rw[IT (by decide),BY (apM _)];exact Tm out m 0 (apM _) ho (fun x=>uQ (x,c,IntKind.i64.wrap (d+1),ag,cu,a1,a2,a3,s0,x1,x2,x3,x4,x5,x6,x7,x8,x9,nw,b1,b2,b3,p,kp,sr,()))
 ·unfold ko;dsimp only;have hw:IntKind.i64.wrap (((k+1:Nat):Int)-1)=(k:Int):=by rw[bp (by omega) (by omega)];omega
  rw[hw];refine(bs (a:=DP m out[k]) ?_).trans ?_
  ·try dsimp only
   rw[aoR (show((k+1:Nat):Int)>0 by omega)];refine(wJ rfl).trans ?_;try dsimp only
   rw[af,AT,ta hk];refine(bs rfl).trans ?_;refine(bs (YE m out[k])).trans ?_;rfl
  by_cases hb:DP m out[k]=true
  ·try dsimp only
   rw[BY hb,BY hb]
  ·rw[IT hb,IT hb,BY (show k+1≤out.length by omega)];exact Tm out m (k+1) hk ho (fun x=>uQ (x,c,IntKind.i64.wrap (d+1),ag,cu,a1,a2,a3,s0,x1,x2,x3,x4,x5,x6,x7,x8,x9,nw,b1,b2,b3,p,kp,sr,()))
 ·try dsimp only
  rw[BY (hki out.length (anz _))];rfl
theorem adj(uQ:_→Option PV)(c d:Int)(ag:PV)(m:bS)(cu out:List bS)(ho:out.length≤500)(hc:cu.length≤500)(a1 a2 a3 s0:Int)(x1 x2 x3 x4 x5 x6 x7 x8 x9:PV)(nw b1 b2 b3 p:Int)(kp sr:List PV):bd.run (gQ bd uQ) (out.map bS.pv,false,c,d,((cu.map bS.pv).length:Int),0,ag,cu.map bS.pv,.int .i64 m.source,.int .i64 m.seq,.int .i64 m.fO,.int .i64 m.dz,.int .i64 m.kind,.str m.aZ,.int .i64 m.day,.int .i64 m.inst,.int .i64 m.call,.int .i64 m.cA,.int .i64 m.aY,.bool m.free,.rs 5 (m.calls.map ai.pv),a1,a2,a3,s0,x1,x2,x3,x4,x5,x6,x7,x8,x9,nw,b1,b2,b3,p,kp,sr,())=uQ ((Vu cu out m).map bS.pv,c,IntKind.i64.wrap (d+1),ag,cu.map bS.pv,a1,a2,a3,s0,x1,x2,x3,x4,x5,x6,x7,x8,x9,nw,b1,b2,b3,p,kp,sr,()):=by
 refine Vx (fun b k=>(out.map bS.pv,b,c,d,((cu.map bS.pv).length:Int),(k:Int),ag,cu.map bS.pv,.int .i64 m.source,.int .i64 m.seq,.int .i64 m.fO,.int .i64 m.dz,.int .i64 m.kind,.str m.aZ,.int .i64 m.day,.int .i64 m.inst,.int .i64 m.call,.int .i64 m.cA,.int .i64 m.aY,.bool m.free,.rs 5 (m.calls.map ai.pv),a1,a2,a3,s0,x1,x2,x3,x4,x5,x6,x7,x8,x9,nw,b1,b2,b3,p,kp,sr,())) cu m (fun k b rec hk=>?_) (fun rec=>?_) (lE (by omega)) rfl
 ·unfold gQ;dsimp only;rw[BY (by rw[te,By];omega),BY (show aC (k:Int) (cu.map bS.pv).length from⟨by omega,by rw[By];omega⟩),agY,AT,ta hk];refine(bs rfl).trans ?_;refine(bs (a:=b||(decide (cu[k].source<m.source)&&Fi cu[k] m)) ?_).trans ?_
  ·cases b with
   |true=>rfl
   |false=>
    rw[afN,apr];iterate 2 refine(bs rfl).trans ?_
    refine(bs (a:=decide (cu[k].source<m.source)&&Fi cu[k] m) ?_).trans ?_
    ·cases decide (cu[k].source<m.source)with
     |false=>rfl
     |true=>refine(wJ rfl).trans ?_;refine(bs (HO cu[k] m)).trans ?_;rfl
    ·rfl
  rw[uP (by omega)]
 ·unfold gQ;dsimp only;rw[IT (by simp)];unfold Vu;by_cases hb:Ks cu m=true
  ·try dsimp only
   rw[IT (by simp[hb]),BY hb]
  ·rw[BY (by simpa using hb),IT hb];exact adi uQ c d ag m out ho (cu.map bS.pv) a1 a2 a3 s0 x1 x2 x3 x4 x5 x6 x7 x8 x9 nw b1 b2 b3 p kp sr
theorem YT(h:S.Inv n)(hn:n≤100)(hB:bl S.N)(s0:Int):bd.run (jK bd) ([],((S.cur S.now).length:Int),0,S.N.pv,(S.cur S.now).map bS.pv,0,0,0,s0,.rs 4 (S.N.stops.map Stop.pv),.rs 3 (S.N.ae.map az.pv),.rs 8 (S.N.runs.map aX.pv),.rs 5 (S.N.ar.map aD.pv),.rs 4 (S.N.paths.map Path.pv),.rs 6 (S.N.av.map aS.pv),.int .i64 S.N.aQ,.int .i64 S.N.within,.int .i64 S.N.cap,S.now,0,0,0,S.pat,S.kept.map bS.pv,S.iX.map Src.pv,())=some (.bool true):=by
 have hk:=h.kept;have qB:(S.cur S.now).length≤S.kept.length:=aob _ _;obtain⟨nl,nv⟩:=afQ h hB S.now;have hlen:=By (as:=S.kept) bS.pv;refine YH (fun out k=>(out,((S.cur S.now).length:Int),(k:Int),S.N.pv,(S.cur S.now).map bS.pv,0,0,0,s0,.rs 4 (S.N.stops.map Stop.pv),.rs 3 (S.N.ae.map az.pv),.rs 8 (S.N.runs.map aX.pv),.rs 5 (S.N.ar.map aD.pv),.rs 4 (S.N.paths.map Path.pv),.rs 6 (S.N.av.map aS.pv),.int .i64 S.N.aQ,.int .i64 S.N.within,.int .i64 S.N.cap,S.now,0,0,0,S.pat,S.kept.map bS.pv,S.iX.map Src.pv,())) (S.cur S.now) (fun k out rec NS ho=>?_) (fun rec=>?_) (lE (by omega)) rfl
 ·unfold jK;dsimp only;rw[BY (by rw[te];omega),BY (show aC (k:Int) ((S.cur S.now).map bS.pv).length from⟨by omega,by rw[By];omega⟩),agY,AT,ta NS];refine(bs rfl).trans ?_;refine(adj rec _ _ _ (S.cur S.now)[k] (S.cur S.now) out (by omega) (by omega) _ _ _ _ _ _ _ _ _ _ _ _ _ _ _ _ _ _ _ _).trans ?_;rw[uP (by omega)]
 ·unfold jK;dsimp only;rw[IT (by simp),show Xf S.N.pv (.agg [.rs 4 (S.N.stops.map Stop.pv),.rs 3 (S.N.ae.map az.pv),.rs 8 (S.N.runs.map aX.pv),.rs 5 (S.N.ar.map aD.pv),.rs 4 (S.N.paths.map Path.pv),.rs 6 (S.N.av.map aS.pv),.int .i64 S.N.aQ,.int .i64 S.N.within,.int .i64 S.N.cap])=true from CZ _];refine(wJ rfl).trans ?_;refine(bs (adf h hn hB S.now)).trans ?_;iterate 3 refine(bs rfl).trans ?_
  refine(bs (OI (S.net S.now) nl.ok nl.paths)).trans ?_;refine(bs rfl).trans ?_;try dsimp only
  rw[aoR nv];refine(wJ rfl).trans ?_;refine(bs (B1 S.N hB.few)).trans ?_;refine(bs rfl).trans ?_;refine(bs (OI S.N hB.lim.ok hB.lim.paths)).trans ?_;refine(bs rfl).trans ?_;try dsimp only
  rw[aoR hB.val,IT (by decide),aT,U,IT (by have:=h.now;simp;omega),hlen];exact YS h hn hB _
theorem YU(h:S.Inv n)(hn:n≤100)(hB:bl S.N)(s0:Int):bd.run (jL bd) (S.kept.map bS.pv,(S.kept.length:Int),0,S.N.pv,S.now,[],0,0,0,s0,.rs 4 (S.N.stops.map Stop.pv),.rs 3 (S.N.ae.map az.pv),.rs 8 (S.N.runs.map aX.pv),.rs 5 (S.N.ar.map aD.pv),.rs 4 (S.N.paths.map Path.pv),.rs 6 (S.N.av.map aS.pv),.int .i64 S.N.aQ,.int .i64 S.N.within,.int .i64 S.N.cap,S.now,0,0,0,S.pat,S.kept.map bS.pv,S.iX.map Src.pv,())=some (.bool true):=by
 have hk:=h.kept;refine Aw (fun k acc=>(S.kept.map bS.pv,(S.kept.length:Int),(k:Int),S.N.pv,S.now,acc,0,0,0,s0,.rs 4 (S.N.stops.map Stop.pv),.rs 3 (S.N.ae.map az.pv),.rs 8 (S.N.runs.map aX.pv),.rs 5 (S.N.ar.map aD.pv),.rs 4 (S.N.paths.map Path.pv),.rs 6 (S.N.av.map aS.pv),.int .i64 S.N.aQ,.int .i64 S.N.within,.int .i64 S.N.cap,S.now,0,0,0,S.pat,S.kept.map bS.pv,S.iX.map Src.pv,())) S.kept (S.Jm S.now) (fun k acc rec hk ha=>?_) (fun rec=>?_) (lE (by omega)) rfl
 ·unfold jL;dsimp only;rw[BY (by rw[te];omega),af,AT,ta hk];refine(bs rfl).trans ?_;refine(bs rfl).trans ?_;refine(bs (Mc _ _)).trans ?_;refine(bs (HT S _ _)).trans ?_;by_cases hc:S.Jm S.now S.kept[k]=true
  ·try dsimp only
   rw[BY hc,BY hc];refine(bs (bA 5 _)).trans ?_;have hm:=(h.msg _ (agZ hk)).2.1;rw[BY (HP _ (by simp;omega)),BY (uN _ (by simp;omega)),uP (by omega)];rfl
  ·try dsimp only
   rw[IT hc,IT hc,uP (by omega)]
 ·unfold jL;dsimp only;rw[IT (by simp),By];exact YT h hn hB _
end
def sPV(T:ao)(a b s p:Int):PV:=.agg [.rs 4 (T.stops.map Stop.pv),.rs 3 (T.ae.map az.pv),.rs 10 (T.gR.map wb.pv),.rs 3 (T.ru.map yE.pv),.rs 5 (T.aj.map bY.pv),.rs 4 (T.bm.map bC.pv),.rs 2 (T.dn.map kN.pv),.rs 3 (T.cH.map jT.pv),.rs 4 (T.paths.map Path.pv),.rs 6 (T.av.map aS.pv),.int .i64 T.aQ,.int .i64 T.within,.int .i64 T.cap,.int .i64 a,.int .i64 b,.int .i64 s,.int .i64 p]
theorem VD(T:ao)(a b s p:Int)(l:List zi):∃c,qG [sPV T a b s p,.rs 15 (l.map zi.pv)]=some (.bool c)∧(c=false→vA T∧l.length≤30∧∀o∈l,o.m.calls.length≤40):=by
 obtain⟨c,hc,hf⟩:=YV T;obtain⟨d,hd⟩:∃d:Bool,((bif decide (b≥a)then some (decide (a≥0))else some false).bind fun r22=>(bif r22 then some (decide (b≤36524))else some false).bind fun r23=>(bif r23 then some (decide (IntKind.i64.wrap (b-a)>2))else some false).bind fun r24=>(bif r24 then some (decide (IntKind.i64.wrap (b-a)<8))else some false).bind fun r25=>some r25)=some d:=by
  try dsimp only
  simp only[Yt,U];exact⟨_,rfl⟩
 have run:l.length≤30→∃c,bd.run kV (l.map zi.pv,0,())=some (.bool c)∧(c=false→∀o∈l,o.m.calls.length≤40):=by
  intro hl;have key:=aO (body:=kV) (fun k=>(l.map zi.pv,(k:Int),())) l.length (fun k=>if(((l[k]?).map fun o=>decide ((o.m.calls.length:Int)>40)||decide ((o.m.aZ.length:Int)>100)).getD false)=true then some (some (PV.bool true))else none) (fin:=some (.bool false)) (fun k hk rec=>?_) (fun rec=>?_) (lE (by omega)) (s0:=(l.map zi.pv,0,())) rfl
  ·rw[key];cases hs:(List.range l.length).findSome? fun k=>if(((l[k]?).map fun o=>decide ((o.m.calls.length:Int)>40)||decide ((o.m.aZ.length:Int)>100)).getD false)=true then some (some (PV.bool true))else none with
   |some x=>
    obtain⟨k,_,hk⟩:=an4 hs;split at hk
    ·cases hk;exact⟨true,rfl,fun h=>by cases h⟩
    ·cases hk
   |none=>
    refine⟨false,rfl,fun _ o ho=>?_⟩;obtain⟨k,hk,rfl⟩:=apW.1 ho;have:=ap3.1 hs k (by simpa using hk);rw[ta hk]at this;simp only[No,anY,anH,te]at this;split at this
    ·cases this
    ·rename_i hh;omega
  ·unfold kV;dsimp only;rw[BY (by rw[te,By];omega),af,AT,ta hk];refine(bs rfl).trans ?_;refine(bs (bA 5 _)).trans ?_;refine(bs (a:=decide ((l[k].m.calls.length:Int)>40)||decide ((l[k].m.aZ.length:Int)>100)) ?_).trans ?_
   ·try dsimp only
    rw[By];cases decide ((l[k].m.calls.length:Int)>40)<;>rfl
   simp only[No,anY];by_cases h:(decide ((l[k].m.calls.length:Int)>40)||decide ((l[k].m.aZ.length:Int)>100))=true
   ·try dsimp only
    rw[BY h,BY h];rfl
   ·rw[IT h,IT h,uP (by omega)];rfl
  ·unfold kV;dsimp only;rw[IT (by simp)]
 have hu:qG [sPV T a b s p,.rs 15 (l.map zi.pv)]=uT bd (sPV T a b s p) (.rs 15 (l.map zi.pv)):=rfl;rw[hu];unfold uT;cases c with
 |false=>
  refine⟨true,?_,fun h=>by cases h⟩;iterate 18 refine(bs rfl).trans ?_
  refine(bs (bA 15 _)).trans ?_;refine(bs hc).trans ?_;rfl
 |true=>
  by_cases hl:l.length≤30
  ·obtain⟨e,he,Vb⟩:=run hl;refine⟨d||e,?_,fun h=>?_⟩
   ·iterate 18 refine(bs rfl).trans ?_
    refine(bs (bA 15 _)).trans ?_;refine(bs hc).trans ?_;refine(bs rfl).trans ?_;refine(bs (a:=false) ?_).trans ?_
    ·try dsimp only
     rw[apI (show¬((l.map zi.pv).length:Int)>30 by simp;omega)];rfl
    refine(bs (a:=d) hd).trans ?_;cases d with
    |true=>rfl
    |false=>exact he
   ·rw[anL]at h;exact⟨hf rfl,hl,Vb h.2⟩
  ·refine⟨true,?_,fun h=>by cases h⟩;iterate 18 refine(bs rfl).trans ?_
   refine(bs (bA 15 _)).trans ?_;refine(bs hc).trans ?_;refine(bs rfl).trans ?_;refine(bs (a:=true) ?_).trans ?_
   ·try dsimp only
    rw[aoR (show((l.map zi.pv).length:Int)>30 by simp;omega)];rfl
   rfl
theorem Rn(T:ao)(hT:vA T)(jq:T.Ok)(a b:Int):∃(e:Int)(N:ay),gD [T.pv,.int .i64 a,.int .i64 b]=some (.aV [if e=0 then N.pv else noN,.int .i64 e])∧(e=0→bl N):=by
 obtain⟨e,N,h1,h3⟩:=OJ T hT jq a b;refine⟨e,N,h1,fun he=>?_⟩;obtain⟨k1,k2,k3,k4,k5,k6,k7⟩:=h3 he;have hv:(dZ N).2.2=0:=by rw[k3]
 obtain⟨v1,v2,v3,v4,v5,v6⟩:=(nS N).1 hv;have pU:=wK v1;refine⟨⟨k1,by omega,?_,k5,k6,k4,?_,fun r hr=>by have:=k7 r hr;omega⟩,k2,hv⟩
 ·unfold ec at v2;grind
 ·unfold cX at v6;grind
section
variable {S:LS} {n:Nat}
def stI(ops:List zi)(s0:Int)(k:Nat)(S:LS):=(ops.map zi.pv,(k:Int),s0,PV.rs 4 (S.N.stops.map Stop.pv),PV.rs 3 (S.N.ae.map az.pv),PV.rs 8 (S.N.runs.map aX.pv),PV.rs 5 (S.N.ar.map aD.pv),PV.rs 4 (S.N.paths.map Path.pv),PV.rs 6 (S.N.av.map aS.pv),PV.int .i64 S.N.aQ,PV.int .i64 S.N.within,PV.int .i64 S.N.cap,S.now,S.pat,S.kept.map bS.pv,S.iX.map Src.pv,())
theorem adk(h:S.Inv n)(hn:n≤100)(ops:List zi)(s0:Int)(k:Nat)(hk0:k<100)(o:zi)(ho:o.m.calls.length≤40)(hr:S.L6 o.m=0)(dt:_→Option PV):bd.run (kq bd dt) (S.kept.map bS.pv,((S.kept.map bS.pv).length:Int),0,ops.map zi.pv,(k:Int),cell o.pv 1,cell o.pv 2,cell o.pv 3,cell o.pv 4,cell o.pv 5,cell o.pv 6,cell o.pv 7,cell o.pv 8,cell o.pv 9,cell o.pv 10,cell o.pv 11,cell o.pv 12,cell o.pv 13,S.now,[],S.pat,S.kept.map bS.pv,s0,PV.rs 4 (S.N.stops.map Stop.pv),PV.rs 3 (S.N.ae.map az.pv),PV.rs 8 (S.N.runs.map aX.pv),PV.rs 5 (S.N.ar.map aD.pv),PV.rs 4 (S.N.paths.map Path.pv),PV.rs 6 (S.N.av.map aS.pv),PV.int .i64 S.N.aQ,PV.int .i64 S.N.within,PV.int .i64 S.N.cap,S.now,S.iX.map Src.pv,())=dt (stI ops s0 (k+1) (S.rcv o.m).1):=by
 have hk:=h.kept;obtain⟨hm0,hs2,_⟩:=Tf hr;have hs1:0≤o.m.source:=by unfold gb wi at hm0;grind
 have Od:=Ov S o.m;refine Aw (fun j acc=>(S.kept.map bS.pv,((S.kept.map bS.pv).length:Int),(j:Int),ops.map zi.pv,(k:Int),cell o.pv 1,cell o.pv 2,cell o.pv 3,cell o.pv 4,cell o.pv 5,cell o.pv 6,cell o.pv 7,cell o.pv 8,cell o.pv 9,cell o.pv 10,cell o.pv 11,cell o.pv 12,cell o.pv 13,S.now,acc,S.pat,S.kept.map bS.pv,s0,PV.rs 4 (S.N.stops.map Stop.pv),PV.rs 3 (S.N.ae.map az.pv),PV.rs 8 (S.N.runs.map aX.pv),PV.rs 5 (S.N.ar.map aD.pv),PV.rs 4 (S.N.paths.map Path.pv),PV.rs 6 (S.N.av.map aS.pv),PV.int .i64 S.N.aQ,PV.int .i64 S.N.within,PV.int .i64 S.N.cap,S.now,S.iX.map Src.pv,())) S.kept (S.stay o.m) (fun j acc rec hj ha=>?_) (fun rec=>?_) (lE (by omega)) rfl
 ·unfold kq;dsimp only;rw[BY (by rw[te,By];omega),af,AT,ta hj];refine(bs rfl).trans ?_;refine(bs (YD o.m S.kept[j])).trans ?_;refine(bs rfl).trans ?_;refine(bs (a:=S.stay o.m S.kept[j]) ?_).trans ?_
  ·unfold LS.stay;cases sup o.m S.kept[j]<;>rfl
  by_cases hc:S.stay o.m S.kept[j]=true
  ·try dsimp only
   rw[BY hc,BY hc];refine(bs (bA 5 _)).trans ?_;have hm:=(h.msg _ (agZ hj)).2.1;rw[BY (HP _ (by simp;omega)),BY (uN _ (by simp;omega)),uP (by omega)];rfl
  ·try dsimp only
   rw[IT hc,IT hc,uP (by omega)]
 ·unfold kq;dsimp only;rw[IT (by simp)];unfold LS.rcv;try dsimp only
  rw[IT (show¬S.L6 o.m≠0 by omega)];unfold LS.rest at Od⊢;by_cases hb:(S.kept.filter (S.stay o.m)).length≥256
  ·try dsimp only
   rw[BY (show decide ((((S.kept.filter (S.stay o.m)).map bS.pv).length:Int)≥256)=true by rw[te,By];omega),BY hb,uP (by omega)];rfl
  ·try dsimp only
   rw[IT (show¬decide ((((S.kept.filter (S.stay o.m)).map bS.pv).length:Int)≥256)=true by rw[te,By];omega),IT hb];refine(bs (bA 5 _)).trans ?_;try dsimp only
   rw[BY (HP _ (by simp;omega)),BY (uN _ (by simp;omega))];refine(bs (a:=o.m.source) rfl).trans ?_;obtain⟨i,hi⟩:∃i:Nat,o.m.source=i:=⟨o.m.source.toNat,by omega⟩;try dsimp only
   rw[hi,BY (show aC (i:Int) (S.iX.map Src.pv).length from⟨by omega,by rw[By];omega⟩),agY];refine(YJ S.iX i (by omega) S.now o.m.seq (cell o.pv 2) rfl (fun x=>dt (ops.map zi.pv,IntKind.i64.wrap ((k:Int)+1),s0,PV.rs 4 (S.N.stops.map Stop.pv),PV.rs 3 (S.N.ae.map az.pv),PV.rs 8 (S.N.runs.map aX.pv),PV.rs 5 (S.N.ar.map aD.pv),PV.rs 4 (S.N.paths.map Path.pv),PV.rs 6 (S.N.av.map aS.pv),PV.int .i64 S.N.aQ,PV.int .i64 S.N.within,PV.int .i64 S.N.cap,S.now,S.pat,(S.kept.filter (S.stay o.m)).map bS.pv++[o.m.pv],x,()))).trans ?_;rw[uP (by omega)];unfold stI;rw[anU];rfl
theorem VE(h:S.Inv n)(hn:n≤100)(ops:List zi)(s0:Int)(k:Nat)(hk:k<ops.length)(hl:ops.length≤30)(ho:∀o∈ops,o.m.Ok∧o.m.calls.length≤40)(dt:_→Option PV):gf bd (stI ops s0 k S) dt=dt (stI ops s0 (k+1) (S.step ops[k]).1):=by
 obtain⟨hm,hc⟩:=ho _ (agZ hk);have anl:=h.now;unfold stI gf;dsimp only;rw[BY (by rw[te,By];omega),af,AT,ta hk,uP (show k<10000 by omega)];refine(bs rfl).trans ?_;refine(bs (a:=ops[k].what) rfl).trans ?_;unfold LS.step;by_cases h0:ops[k].what=0
 ·try dsimp only
  rw[BY (by simp[h0]),BY h0];refine(bs (YF S ops[k].m hm)).trans ?_;refine(bs rfl).trans ?_;by_cases hr:S.L6 ops[k].m=0
  ·try dsimp only
   rw[IT (by simp[hr])];exact adk h hn ops s0 k (by omega) ops[k] hc hr dt
  ·try dsimp only
   rw[BY (by simpa using hr)];unfold LS.rcv;try dsimp only
   rw[BY hr]
 ·rw[IT (by simpa using h0),IT h0];by_cases h1:ops[k].what=1
  ·try dsimp only
   rw[BY (by simp[h1]),BY h1];refine(bs (a:=ops[k].n) rfl).trans ?_;refine(bs (Fj S ops[k].n)).trans ?_;refine(bs rfl).trans ?_;unfold LS.afM;cases hs:S.Rm ops[k].n with
   |false=>rfl
   |true=>
    try dsimp only
    rw[IT (show¬(!true)=true by decide),aT,U,IT (show¬(decide (S.now<0)||decide (S.now>3155932800))=true by simp;omega),IT (show¬true=false by decide),IT (show¬(S.now<0∨S.now>3155932800) by omega)];unfold LS.Rm at hs;try dsimp only
    simp only[OF,te]at hs;obtain⟨i,hi⟩:∃i:Nat,ops[k].n=i:=⟨ops[k].n.toNat,by omega⟩;try dsimp only
    rw[hi,BY (show aC (i:Int) (S.iX.map Src.pv).length from⟨by omega,by rw[By];omega⟩),agY];exact Vy S.iX i (by omega) S.now (fun x=>dt (ops.map zi.pv,((k+1:Nat):Int),s0,PV.rs 4 (S.N.stops.map Stop.pv),PV.rs 3 (S.N.ae.map az.pv),PV.rs 8 (S.N.runs.map aX.pv),PV.rs 5 (S.N.ar.map aD.pv),PV.rs 4 (S.N.paths.map Path.pv),PV.rs 6 (S.N.av.map aS.pv),PV.int .i64 S.N.aQ,PV.int .i64 S.N.within,PV.int .i64 S.N.cap,S.now,S.pat,S.kept.map bS.pv,x,()))
  ·try dsimp only
   rw[IT (by simpa using h1),IT h1];refine(bs (a:=ops[k].n) rfl).trans ?_;try dsimp only
   rw[aT,U];unfold LS.adv;by_cases ha:ops[k].n<S.now∨ops[k].n>3155932800
   ·try dsimp only
    rw[BY (by simpa using ha),BY ha]
   ·rw[IT (by simpa using ha),IT ha]
end
def alW:Src:=⟨false,0,false,0⟩
def zj(N:ay)(s:Nat)(p:Int):LS:=⟨N,List.replicate s alW,p,[],0⟩
theorem VF(N:ay)(s:Nat)(p:Int)(hs:s≤8):(zj N s p).Inv 0:=⟨by simpa[zj]using hs,anz _,⟨Int.le_refl _,show(0:Int)≤3155932800 by decide⟩,by simp[zj]⟩
theorem YW{N:ay}(hB:bl N)(s:Nat)(hs:s≤8)(p:Int)(ops:List zi)(hl:ops.length≤30)(ho:∀o∈ops,o.m.Ok∧o.m.calls.length≤40)(s0:Int):bd.run (gf bd) (stI ops s0 0 (zj N s p))=some (.bool true):=by
 have hi:=fun k=>Yz (ops.take k) (VF N s p hs) (fun o h=>ho o (aox h));refine bh (fun k=>stI ops s0 k ((zj N s p).L7 (ops.take k))) ops.length (fun k hk rec=>?_) (fun rec=>?_) (lE (by omega)) rfl
 ·obtain⟨h1,h2,h3⟩:=hi k;rw[VE h1 (by simp;omega) ops s0 k hk hl ho rec,←Vv _ _ _ hk]
 ·obtain⟨h1,h2,h3⟩:=hi ops.length;have hB':bl ((zj N s p).L7 (ops.take ops.length)).N:=by rw[h2];exact hB
  generalize (zj N s p).L7 (ops.take ops.length)=S at h1 hB'⊢;unfold stI gf;dsimp only;rw[IT (by simp),By];exact YU h1 (by simp;omega) hB' _
theorem YX(T:ao)(jq:T.Ok)(a b s p:Int)(ops:List zi)(ho:∀o∈ops,o.m.Ok):qj [sPV T a b s p,.rs 15 (ops.map zi.pv)]=some (.bool true):=by
 obtain⟨c,hc,hf⟩:=VD T a b s p ops;show oT bd (sPV T a b s p) (.rs 15 (ops.map zi.pv))=_;unfold oT;iterate 18 refine(bs rfl).trans ?_
 refine(bs (bA 15 _)).trans ?_;refine(bs hc).trans ?_;refine(bs rfl).trans ?_;cases c with
 |true=>
  try dsimp only
  rw[BY rfl];refine(bs OH).trans ?_;rfl
 |false=>
  obtain⟨f1,f2,f3⟩:=hf rfl;try dsimp only
  rw[IT (by decide)];obtain⟨e,N,h1,h3⟩:=Rn T f1 jq a b;refine(bs h1).trans ?_;refine(bs (bt2 _ _)).trans ?_;have hA:Ab.asAgg 9 (([if e=0 then N.pv else noN,PV.int .i64 e]:List PV).getD 0 .bad)=some ():=by show Ab.asAgg 9 (if e=0 then N.pv else noN)=some ();split<;>rfl
  refine(bs hA).trans ?_;refine(bs (a:=e) rfl).trans ?_;by_cases he:e=0
  ·subst he;have hB:=h3 rfl;rw[IT (show¬((0:Int) !=0)=true by decide),aT,U];by_cases g1:s<1∨s>8
   ·try dsimp only
    rw[BY (by simpa using g1),OH];rfl
   ·try dsimp only
    rw[IT (by simpa using g1),aT,U];by_cases g2:p<0∨p>86400
    ·try dsimp only
     rw[BY (by simpa using g2),OH];rfl
    ·try dsimp only
     rw[IT (by simpa using g2)];obtain⟨n,rfl⟩:∃n:Nat,s=n:=⟨s.toNat,by omega⟩;try dsimp only
     rw[BY (show 0≤(n:Int)∧(n:Int)≤(n:Int)∧((n:Int)).toNat*32≤aa∧0<32∧0<4 by
      have:30000≤aa:=by decide
      refine⟨by omega,by omega,by omega,by decide,by decide⟩)]
     have hr:=YW hB n (by omega) p ops f2 (fun o h=>⟨ho o h,f3 o h⟩) n;unfold stI zj at hr;simp only[List.map_replicate]at hr;exact hr
  ·try dsimp only
   rw[BY (show(e !=0)=true by simpa using he),OH];rfl
end Go.Ab.Tt
