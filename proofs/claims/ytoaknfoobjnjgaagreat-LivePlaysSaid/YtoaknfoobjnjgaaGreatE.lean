import Derived.Test.YtoaknfoobjnjgaaGreatSh
set_option linter.all false
open Option renaming some→U,none→Z
open Bool renaming true→Y,false→J
open Decidable renaming decide→O
open List renaming range→I
open Go.IntKind renaming wrap→C
namespace Go.Ab.Tt
abbrev po(n:Int):Prop:=(Lit.int .i64 n).wf=Y
structure Stop where
 id:Bytes
 Gd:Int
 free:Bool
 change:Int
 deriving DecidableEq
def Stop.pv(x:Stop):PV:=.agg [.str x.id,.int .i64 x.Gd,.bool x.free,.int .i64 x.change]
structure Stop.l9(M:Nat)(x:Stop):Prop where
 id:x.id.length<=M
 Gd:po x.Gd
 change:po x.change
abbrev Stop.Ok(x:Stop):Prop:=x.l9 maxLen
structure aD where
 id:Bytes
 mode:Int
 axp:Bool
 deriving DecidableEq
def aD.pv(x:aD):PV:=.agg [.str x.id,.int .i64 x.mode,.bool x.axp]
structure aD.l9(M:Nat)(x:aD):Prop where
 id:x.id.length<=M
 mode:po x.mode
abbrev aD.Ok(x:aD):Prop:=x.l9 maxLen
structure sE where
 id:Bytes
 w0:Bool
 w1:Bool
 w2:Bool
 w3:Bool
 w4:Bool
 w5:Bool
 w6:Bool
 Ge:Int
 Gf:Int
 deriving DecidableEq
def sE.pv(x:sE):PV:=.agg [.str x.id,.bool x.w0,.bool x.w1,.bool x.w2,.bool x.w3,.bool x.w4,.bool x.w5,.bool x.w6,.int .i64 x.Ge,.int .i64 x.Gf]
structure sE.l9(M:Nat)(x:sE):Prop where
 id:x.id.length<=M
 Ge:po x.Ge
 Gf:po x.Gf
abbrev sE.Ok(x:sE):Prop:=x.l9 maxLen
structure xW where
 Dd:Int
 day:Int
 added:Bool
 deriving DecidableEq
def xW.pv(x:xW):PV:=.agg [.int .i64 x.Dd,.int .i64 x.day,.bool x.added]
structure xW.l9(M:Nat)(x:xW):Prop where
 Dd:po x.Dd
 day:po x.day
abbrev xW.Ok(x:xW):Prop:=x.l9 maxLen
structure ar where
 stop:Int
 arr:Int
 dep:Int
 D9:Bool
 vI:Bool
 deriving DecidableEq
def ar.pv(x:ar):PV:=.agg [.int .i64 x.stop,.int .i64 x.arr,.int .i64 x.dep,.bool x.D9,.bool x.vI]
structure ar.l9(M:Nat)(x:ar):Prop where
 stop:po x.stop
 arr:po x.arr
 dep:po x.dep
abbrev ar.Ok(x:ar):Prop:=x.l9 maxLen
structure bC where
 id:Bytes
 bn:Int
 Dd:Int
 free:Bool
 calls:List ar
 deriving DecidableEq
def bC.pv(x:bC):PV:=.agg [.str x.id,.int .i64 x.bn,.int .i64 x.Dd,.bool x.free,.rs 5 (x.calls.map ar.pv)]
structure bC.l9(M:Nat)(x:bC):Prop where
 id:x.id.length<=M
 bn:po x.bn
 Dd:po x.Dd
 calls:x.calls.length<=M/\∀y∈x.calls,y.l9 M
abbrev bC.Ok(x:bC):Prop:=x.l9 maxLen
structure bu where
 bg:Int
 t0:Int
 t1:Int
 every:Int
 deriving DecidableEq
def bu.pv(x:bu):PV:=.agg [.int .i64 x.bg,.int .i64 x.t0,.int .i64 x.t1,.int .i64 x.every]
structure bu.l9(M:Nat)(x:bu):Prop where
 bg:po x.bg
 t0:po x.t0
 t1:po x.t1
 every:po x.every
abbrev bu.Ok(x:bu):Prop:=x.l9 maxLen
structure jt where
 a:Int
 b:Int
 deriving DecidableEq
def jt.pv(x:jt):PV:=.agg [.int .i64 x.a,.int .i64 x.b]
structure jt.l9(M:Nat)(x:jt):Prop where
 a:po x.a
 b:po x.b
abbrev jt.Ok(x:jt):Prop:=x.l9 maxLen
structure ju where
 a:Int
 b:Int
 stop:Int
 deriving DecidableEq
def ju.pv(x:ju):PV:=.agg [.int .i64 x.a,.int .i64 x.b,.int .i64 x.stop]
structure ju.l9(M:Nat)(x:ju):Prop where
 a:po x.a
 b:po x.b
 stop:po x.stop
abbrev ju.Ok(x:ju):Prop:=x.l9 maxLen
structure Path where
 a:Int
 b:Int
 ck:Int
 free:Bool
 deriving DecidableEq
def Path.pv(x:Path):PV:=.agg [.int .i64 x.a,.int .i64 x.b,.int .i64 x.ck,.bool x.free]
structure Path.l9(M:Nat)(x:Path):Prop where
 a:po x.a
 b:po x.b
 ck:po x.ck
abbrev Path.Ok(x:Path):Prop:=x.l9 maxLen
structure bd where
 id:Bytes
 Ob:Int
 Oc:Int
 Od:Int
 ck:Int
 Oe:Int
 deriving DecidableEq
def bd.pv(x:bd):PV:=.agg [.str x.id,.int .i64 x.Ob,.int .i64 x.Oc,.int .i64 x.Od,.int .i64 x.ck,.int .i64 x.Oe]
structure bd.l9(M:Nat)(x:bd):Prop where
 id:x.id.length<=M
 Ob:po x.Ob
 Oc:po x.Oc
 Od:po x.Od
 ck:po x.ck
 Oe:po x.Oe
abbrev bd.Ok(x:bd):Prop:=x.l9 maxLen
structure aw where
 stops:List Stop
 ak:List aD
 eN:List sE
 pC:List xW
 ai:List bC
 br:List bu
 df:List jt
 cm:List ju
 paths:List Path
 aF:List bd
 aZ:Int
 within:Int
 cap:Int
def aw.pv(x:aw):PV:=.agg [.rs 4 (x.stops.map Stop.pv),.rs 3 (x.ak.map aD.pv),.rs 10 (x.eN.map sE.pv),.rs 3 (x.pC.map xW.pv),.rs 5 (x.ai.map bC.pv),.rs 4 (x.br.map bu.pv),.rs 2 (x.df.map jt.pv),.rs 3 (x.cm.map ju.pv),.rs 4 (x.paths.map Path.pv),.rs 6 (x.aF.map bd.pv),.int .i64 x.aZ,.int .i64 x.within,.int .i64 x.cap]
structure aw.l9(M:Nat)(x:aw):Prop where
 stops:x.stops.length<=M/\∀y∈x.stops,y.l9 M
 ak:x.ak.length<=M/\∀y∈x.ak,y.l9 M
 eN:x.eN.length<=M/\∀y∈x.eN,y.l9 M
 pC:x.pC.length<=M/\∀y∈x.pC,y.l9 M
 ai:x.ai.length<=M/\∀y∈x.ai,y.l9 M
 br:x.br.length<=M/\∀y∈x.br,y.l9 M
 df:x.df.length<=M/\∀y∈x.df,y.l9 M
 cm:x.cm.length<=M/\∀y∈x.cm,y.l9 M
 paths:x.paths.length<=M/\∀y∈x.paths,y.l9 M
 aF:x.aF.length<=M/\∀y∈x.aF,y.l9 M
 aZ:po x.aZ
 within:po x.within
 cap:po x.cap
abbrev aw.Ok(x:aw):Prop:=x.l9 maxLen
section
variable {P:Program} {M d:Nat} {t:TypeId} {a:List PV}
def ek{fs:Array Field}(hu:P.underlying t=U (.struct fs))(h:gU M P (d+1) t a):DM P (gU M P d) fs.toList a:=by unfold gU at h;rw[hu]at h;exact h
def agt{n:Nat}{e:TypeId}(hu:P.underlying t=U (.array n e))(h:gU M P (d+1) t a):ahX (gU M P d e) (bq P e) n a:=by unfold gU at h;rw[hu]at h;exact h
def IP(hu:P.underlying t=U .string)(h:gU M P (d+1) t a):∃s:Bytes,a=[.str s]/\s.length<=M:=by unfold gU at h;rw[hu]at h;exact h
def bL{k:IntKind}(hu:P.underlying t=U (.int k))(h:gU M P (d+1) t a):∃n,a=[.int k n]/\(Lit.int k n).wf=true:=by unfold gU at h;rw[hu]at h;exact h
def jd(hu:P.underlying t=U .bool)(h:gU M P (d+1) t a):∃b,a=[.bool b]:=by unfold gU at h;rw[hu]at h;exact h
def OI{B:Type}{f:B->PV}{Q:B->Prop}:∀{es:List PV},(∀x∈es,∃s,x=f s/\Q s)->∃l:List B,es=l.map f/\∀s∈l,Q s
 |[],_=>⟨[],rfl,ae⟩
 |x::es,h=>by
  have⟨s,hs,hq⟩:=h x ae;obtain⟨l,hl,hql⟩:=OI (es:=es) λy hy=>h y (by simp[hy]);exact⟨s::l,by simp[hs,hl],λy hy=>by
   rcases aye.1 hy with rfl|hy
   .exact hq
   .exact hql y hy⟩
def lI{e:TypeId}{B:Type}{f:B->PV}{Q:B->Prop}(hu:P.underlying t=U (.slice e))(X1:aS P e=Y){c:Nat}(hc:bq P e=c)(hB:∀qs,gU M P d e qs->∃s,KA Y qs=f s/\Q s)(h:gU M P (d+1) t a):∃l:List B,a=[.rs c (l.map f)]/\l.length<=M/\∀s∈l,Q s:=by
 unfold gU at h;rw[hu]at h;obtain⟨es,rfl,hl,he⟩:=h;obtain⟨l,rfl,hq⟩:=OI (f:=f) (Q:=Q) (es:=es) λx hx=>by obtain⟨qs,rfl,_,hs⟩:=he x hx;rw[X1];exact hB qs hs
 exact⟨l,by rw[hc],by simpa using hl,hq⟩
end
end Go.Ab.Tt
namespace Go.Ab.Tt
def bh(a b:Bool):(bif a then U b else U J)=U (a&&b):=by cases a<;>rfl
def aG(a b:Bool):(bif a then U Y else U b)=U (a||b):=by cases a<;>rfl
def bW{A:Type}[DecidableEq A][BEq A][LawfulBEq A](a b:A):(a==b)=O (a=b):=ao
def dQ{A:Type}[DecidableEq A][BEq A][LawfulBEq A](a b:A):(a !=b)= !decide (a=b):=ao
section
variable {K:Type} [DecidableEq K]
def Lq(a:K)(v:PV):List (K×PV)->List (K×PV)
 |[]=>[(a,v)]
 |(b,u)::r=>if a=b then(a,v)::r else(b,u)::Lq a v r
def Hg(a:K)(z:PV):List (K×PV)->PV
 |[]=>z
 |(b,u)::r=>if a=b then u else Hg a z r
def FW(key:K->PV)(m:List (K×PV)):List (PV×PV):=m.map λx=>(key x.1,x.2)
theorem MU(a b:K)(v z:PV):∀m,Hg a z (Lq b v m)=if a=b then v else Hg a z m
 |[]=>rfl
 |(c,u)::r=>by
  simp only[Lq];by_cases h:b=c
  .simp_all[By,Hg]
  .simp only[IT h,Hg,MU a b v z r];grind
variable {key:K->PV} (hk:∀a b,cz (key a).cells (key b).cells=O (a=b))
include hk
theorem V6(a:K)(v:PV):∀m,eu (key a) v (FW key m)=FW key (Lq a v m)
 |[]=>rfl
 |(b,u)::r=>by
  simp only[FW,ayb,eu,hk,Lq];by_cases h:a=b
  .simp[h]
  .have:=V6 a v r;simp only[FW]at this;simp[h,this]
def Rc(a:K)(z:PV):∀m,eY (key a) z (FW key m)=Hg a z m
 |[]=>rfl
 |(b,u)::r=>by
  simp only[FW,ayb,eY,hk,Hg];by_cases h:a=b
  .simp[h]
  .have:=Rc a z r;simp only[FW]at this;simp[h,this]
omit hk
def UF(l:List K):List (K×PV):=l.foldl (λm a=>Lq a (.bool Y) m) []
def seen(key:K->PV)(l:List K):List (PV×PV):=FW key (UF l)
theorem acp(l:List K)(a:K):UF (l++[a])=Lq a (.bool Y) (UF l):=by simp[UF]
def acq(a:K)(l:List K):Hg a (.bool J) (UF l)=.bool (O (a∈l)):=by
 have key:∀(l:List K)(m:List (K×PV))(s:K->Bool),(∀a,Hg a (.bool J) m=.bool (s a))->∀a,Hg a (.bool J) (l.foldl (λm a=>Lq a (.bool Y) m) m)=.bool (O (a∈l)||s a):=by
  intro l;induction l with
  |nil=>simp
  |cons b l ih=>intro m s h a;simp only[aA3];rw[ih (Lq b (.bool Y) m) (λa=>O (a=b)||s a) (λa=>by grind [MU]) a];grind
 have:=key l [] (λ_=>J) (λ_=>rfl) a;simpa[UF]using this
include hk
def fT(a:K)(l:List K):eY (key a) (.bool J) (seen key l)=.bool (O (a∈l)):=by rw[seen,Rc hk,acq]
def hZ(a:K)(l:List K):eu (key a) (.bool Y) (seen key l)=seen key (l++[a]):=by grind [seen,V6,acp]
end
def wa(a b:Bytes):cz (PV.str a).cells (PV.str b).cells=O (a=b):=by simp[PV.cells,cz,peq,azw,bW]
def II(a b:Int):cz (PV.int .i64 a).cells (PV.int .i64 b).cells=O (a=b):=by simp[PV.cells,cz,peq,azw,bW]
variable{R:Type}
def bN(o:Option (Option R))(fin:Option R):Option R:=match o with|some r=>r|none=>fin
def aC{S:Type}{body:S->(S->Option R)->Option R}(st:Nat->S)(n:Nat)(bad:Nat->Option (Option R)){fin:Option R}(h:∀k,k<n->∀rec,body (st k) rec=bN (bad k) (rec (st (k+1))))(sx:∀rec,body (st n) rec=fin)(hn:n<rounds){s0:S}(h0:st 0=s0):cD.run body s0=bN ((I n).findSome? bad) fin:=S1 st n bad h sx hn h0
def res(i e:Int):PV:=.b8 [.int .i64 i,.int .i64 e]
def cg(f:Nat->Int)(n:Nat):Int×Int:=match(I n).findSome? (λk=>if f k=0 then Z else U ((k:Int),f k))with|some x=>x|none=>(0,0)
def Hc(k:Nat)(e:Int):Option (Option PV):=if e=0 then Z else U (U (res k e))
def dr(f:Nat->Int)(n:Nat):bN ((I n).findSome? λk=>Hc k (f k)) (U (res 0 0))=U (res (cg f n).1 (cg f n).2):=by
 unfold cg;have:(I n).findSome? (λk=>Hc k (f k))=((I n).findSome? (λk=>if f k=0 then Z else U ((k:Int),f k))).map λx=>U (res x.1 x.2):=by rw[aAH];congr 1;funext k;grind [Hc]
 rw[this];cases(I n).findSome? (λk=>if f k=0 then Z else U ((k:Int),f k))<;>rfl
def lq(b:UInt8):Bool:=(O (97<=(b.toNat:Int))&&O ((b.toNat:Int)<=122))||(O (65<=(b.toNat:Int))&&O ((b.toNat:Int)<=90))||(O (48<=(b.toNat:Int))&&O ((b.toNat:Int)<=57))||decide ((b.toNat:Int)=45)||decide ((b.toNat:Int)=95)||decide ((b.toNat:Int)=46)
def dq(s:Bytes):Bool:=O (1<=s.length)&&O (s.length<=32)&&s.all lq
def D2(s:Bytes)(k:Nat):agK s (k:Int)=s[k]?:=bm
def QZ{body:Bytes×Int×Unit->(Bytes×Int×Unit->Option R)->Option R}(s:Bytes)(hs:s.length<=maxLen)(ok:UInt8->Bool)(no fin:Option R)(h:∀k,(hk:k<s.length)->∀rec,body (s,(k:Int),()) rec=if ok s[k]then rec (s,((k+1:Nat):Int),())else no)(sx:∀rec,body (s,(s.length:Int),()) rec=fin):cD.run body (s,0,())=if s.all ok then fin else no:=by
 have hm:=ax;refine(S1 (λk=>(s,(k:Int),())) s.length (λk=>(s[k]?).bind λb=>if ok b then Z else U no) (λk hk rec=>?_) (fin:=fin) sx ?_ rfl).trans ?_
 .rw[h k hk,ta hk,ayg];by_cases hb:ok s[k]=Y<;>simp[hb]
 .have:=aP;omega
 .rw[Pz];clear h sx hs;induction s with
  |nil=>rfl
  |cons b s ih=>
   simp only[ay5,aAV];by_cases hb:ok b=Y
   .simp only[hb,By,ayS];exact ih
   .simp[hb]
def fD{B:Type}(p:Nat->Bool)(g:Nat->B):∀l:List Nat,l.findSome? (λk=>if p k=Y then U (g k)else Z)=(l.find? p).map g
 |[]=>rfl
 |k::l=>by
  simp only[ay5,aBb];cases h:p k with
  |true=>simp
  |false=>simpa using fD p g l
def LX(ids:List Bytes)(s:Bytes):Int:=match(I ids.length).find? (λk=>O (ids[k]?=U s))with|some k=>(k:Int)|none=> -1
def amv(ids:List Bytes)(k:Nat)(h:k<ids.length):LX ids ids[k]<(k:Int)↔ids[k]∈ids.take k:=by
 unfold LX;have hex:∃j,(I ids.length).find? (λj=>O (ids[j]?=U ids[k]))=U j:=by
  cases hf:(I ids.length).find? (λj=>O (ids[j]?=U ids[k]))with
  |some j=>simp
  |none=>rw[azF]at hf;have:=hf k (by simpa using h);simp_all
 obtain⟨j,hj⟩:=hex;rw[hj];simp only;rw[azU]at hj;obtain⟨h1,h2,h3⟩:=hj;simp only[tb]at h1;constructor
 .intro bX;refine ayc.2 ⟨j,?_⟩;simp_all
 .intro bt;have⟨i,hi⟩:=ayc.1 bt;grind
def dG{S R:Type}{body:S->(S->Option R)->Option R}(st:Nat->S)(i:Nat)(hit:Nat->Bool){no fin:Option R}(h:∀k,k<i->∀rec,body (st k) rec=if hit k=Y then no else rec (st (k+1)))(sx:∀rec,body (st i) rec=fin)(hi:i<rounds){s0:S}(h0:st 0=s0):cD.run body s0=if(I i).any hit=Y then no else fin:=by
 refine(aC st i (λk=>if hit k=Y then U no else Z) (λk hk rec=>?_) sx hi h0).trans ?_
 .grind [bN]
 .have:∀l:List Nat,bN (l.findSome? λk=>if hit k=Y then U no else Z) fin=if l.any hit=Y then no else fin:=by
   intro l;induction l with
   |nil=>rfl
   |cons k l ih=>
    simp only[ay5,aAS];by_cases hh:hit k=Y
    .simp[hh,bN]
    simp_all
  exact this _
def jR{A:Type}[DecidableEq A](ids:List A)(i:Nat)(h:i<=ids.length)(x:A):(I i).any (λk=>O (ids[k]?=U x))=O (x∈ids.take i):=by
 rw[ayo];simp only[azE,ayB,tb];constructor
 .rintro⟨k,hk,hx⟩;exact ayc.2 ⟨k,ao⟩
 .intro bt;have⟨k,hk⟩:=ayc.1 bt;grind
def my{A B:Type}(f:A->B)(l:List A)(k:Nat)(h:k<l.length):(l.map f).take (k+1)=(l.map f).take k++[f l[k]]:=by simp_all[awT]
def amw(ids:List Bytes)(s:Bytes):LX ids s>=0↔s∈ids:=by
 unfold LX;cases hf:(I ids.length).find? (λj=>O (ids[j]?=U s))with
 |some j=>grind
 |none=>rw[azF]at hf;refine⟨λh=>absurd h ae,λbt=>?_⟩;have⟨j,hj⟩:=ayc.1 bt;grind
def WR(e:Int):Option (Option PV):=if e=0 then Z else U (U (.int .i64 e))
def Q6(f:Nat->Int)(n:Nat):bN ((I n).findSome? λk=>WR (f k)) (U (.int .i64 0))=U (.int .i64 (cg f n).2):=by
 unfold cg;have:(I n).findSome? (λk=>WR (f k))=((I n).findSome? (λk=>if f k=0 then Z else U ((k:Int),f k))).map λx=>U (.int .i64 x.2):=by rw[aAH];congr 1;funext k;grind [WR]
 rw[this];cases(I n).findSome? (λk=>if f k=0 then Z else U ((k:Int),f k))<;>rfl
def afv(f:Nat->Int)(n:Nat)(h:(cg f n).2=0):(cg f n).1=0:=by
 unfold cg at*;cases hf:(I n).findSome? (λk=>if f k=0 then Z else U ((k:Int),f k))with
 |none=>rfl
 |some x=>rw[hf]at h;have⟨k,_,hk⟩:=ayC hf;grind
end Go.Ab.Tt
namespace Go.Ab.Nw
section
variable (w:Nat->Nat->Nat->Prop)
def OR:Nat->Nat->Nat->Nat->Prop
 |0,i,j,L=>w i j L
 |k+1,i,j,L=>OR k i j L\/∃A B,OR k i k A/\OR k k j B/\L=A+B
inductive lj:Nat->Nat->Nat->Prop
 |GL {i j c:Nat}:w i j c->lj i j c
 |snoc {i m j A c:Nat}:lj i m A->w m j c->lj i j (A+c)
end
section
variable {w:Nat->Nat->Nat->Prop}
variable{i j L:Nat}
def OR.up{k:Nat}(h:OR w k i j L):OR w (k+1) i j L:=.inl h
def OR.le{k k':Nat}(hk:k<=k')(h:OR w k i j L):OR w k' i j L:=by
 induction hk with
 |refl=>omega
 |step _ ih=>exact ih.up
def Lt:∀(k:Nat){m i j A B:Nat},m<k->OR w k i m A->OR w k m j B->∃C10,C10<=A+B/\OR w k i j C10
 |0,_,_,_,_,_,h,_,_=>aa
 |k+1,m,i,j,A,B,h,ha,hb=>by
  by_cases hm:m=k
  .subst hm;have h1:∃A',A'<=A/\OR w m i m A':=by
    rcases ha with ha|⟨X,Y10,x,y,e⟩
    .grind
    grind
   have h2:∃B',B'<=B/\OR w m m j B':=by
    rcases hb with hb|⟨X,Y10,x,y,e⟩
    .grind
    grind
   obtain⟨A',a1,a2⟩:=h1;obtain⟨B',b1,b2⟩:=h2;exact⟨A'+B',aa,.inr ⟨A',B',a2,b2,rfl⟩⟩
  .have bX:m<k:=aa
   rcases ha with ha|⟨X,Y10,x,y,e⟩
   .rcases hb with hb|⟨X',Y',x',y',e'⟩
    .obtain⟨C10,c1,c2⟩:=Lt k bX ha hb;exact⟨C10,c1,.inl c2⟩
    .obtain⟨C10,c1,c2⟩:=Lt k bX ha x';exact⟨C10+Y',aa,.inr ⟨C10,Y',c2,y',rfl⟩⟩
   .rcases hb with hb|⟨X',Y',x',y',e'⟩
    .obtain⟨C10,c1,c2⟩:=Lt k bX y hb;exact⟨X+C10,aa,.inr ⟨X,C10,x,c2,rfl⟩⟩
    .exact⟨X+Y',aa,.inr ⟨X,Y',x,y',rfl⟩⟩
def lj.join{m A B:Nat}(h1:lj w i m A)(h2:lj w m j B):lj w i j (A+B):=by
 induction h2 with
 |GL h=>exact .snoc h1 h
 |snoc _ h ih=>rw[<-ayU];exact .snoc ih h
def OR.walk:∀{k i j L:Nat},OR w k i j L->lj w i j L
 |0,_,_,_,h=>.GL h
 |k+1,i,j,L,.inl h=>OR.walk (k:=k) h
 |k+1,i,j,L,.inr ⟨A,B,h1,h2,e⟩=>by rw[e];exact(OR.walk (k:=k) h1).join (OR.walk (k:=k) h2)
def lj.via{n:Nat}(hn:∀i j c,w i j c->i<n)(h:lj w i j L):∃C10,C10<=L/\OR w n i j C10:=by
 induction h with
 |GL h=>exact⟨_,ayd _,OR.le (aAk _) (show OR w 0 _ _ _ from h)⟩
 |snoc _ h ih=>obtain⟨C10,c1,c2⟩:=ih;obtain⟨D,d1,d2⟩:=Lt n (hn _ _ _ h) c2 (OR.le (aAk _) (show OR w 0 _ _ _ from h));grind
variable{w':Nat->Nat->Nat->Prop}
def lj.mono(hw:∀i j c,w i j c->w' i j c)(h:lj w i j L):lj w' i j L:=by
 induction h with
 |GL h=>exact .GL (hw _ _ _ h)
 |snoc _ h ih=>exact .snoc ih (hw _ _ _ h)
def lj.leq(hw:∀i j c,w i j c->∃c',c'<=c/\w' i j c')(h:lj w i j L):∃L',L'<=L/\lj w' i j L':=by
 induction h with
 |GL h=>obtain⟨c',h1,h2⟩:=hw _ _ _ h;exact⟨c',h1,.GL h2⟩
 |snoc _ h ih=>obtain⟨c',h1,h2⟩:=hw _ _ _ h;obtain⟨L',l1,l2⟩:=ih;exact⟨L'+c',aa,.snoc l2 h2⟩
def adF(w:Nat->Nat->Nat->Prop)(i j:Nat)(o:Option Nat):Prop:=match o with
 |some L=>lj w i j L/\∀L',lj w i j L'->L<=L'
 |none=>∀L',¬lj w i j L'
def adF.unique{o o':Option Nat}(h:adF w i j o)(h':adF w i j o'):o=o':=by
 cases o with
 |none=>cases o' with
  |none=>rfl
  |some L=>exact absurd h'.1 (h L)
 |some L=>cases o' with
  |none=>exact absurd h.1 (h' L)
  |some L'=>rw[Nat.le_antisymm (h.2 _ h'.1) (h'.2 _ h.1)]
structure Fw(w:Nat->Nat->Nat->Prop)(inf:Nat)(n:Nat)(d:Nat->Nat->Nat):Prop where
 top:∀i j,i<n->j<n->d i j<=inf
 real:∀i j,i<n->j<n->d i j<inf->lj w i j (d i j)
def AR(w:Nat->Nat->Nat->Prop)(k i j:Nat)(x:Nat):Prop:=∀L,OR w k i j L->x<=L
variable{d:Nat->Nat->Nat}
def alD{inf n k:Nat}(h:Fw w inf n d)(hi:i<n)(hj:j<n)(hk:k<n){x:Nat}(hx:x=min (d i j) (d i k+d k j)){d':Nat->Nat->Nat}(hd:∀a b,d' a b=if a=i/\b=j then x else d a b):Fw w inf n d'/\(∀a b,d' a b<=d a b)/\(AR w k i k (d i k)->AR w k k j (d k j)->AR w k i j (d i j)->AR w (k+1) i j (d' i j)):=by
 refine⟨⟨λa b ha hb=>?_,λa b ha hb bX=>?_⟩,λa b=>?_,λh1 h2 h3 L hL=>?_⟩
 .rw[hd];split
  .have:=h.top i j hi hj;omega
  .exact h.top a b ha hb
 .rw[hd]at bX⊢;split
  .rename_i e;rw[BY e]at bX;obtain⟨rfl,rfl⟩:=e;by_cases hm:d a b<=d a k+d k b
   .rw[show x=d a b by omega]at bX⊢;exact h.real a b ha hb bX
   .have e2:x=d a k+d k b:=aa
    rw[e2]at bX⊢;exact(h.real a k ha hk aa).join (h.real k b hk hb aa)
  next e=>rw[IT e]at bX;exact h.real a b ha hb bX
 .grind
 .rw[hd,BY ⟨rfl,rfl⟩];rcases hL with hL|⟨A,B,a1,a2,e⟩
  .have:=h3 _ hL;omega
  .have:=h1 _ a1;have:=h2 _ a2;omega
def alE{inf n:Nat}(hn:∀i j c,w i j c->i<n)(h:Fw w inf n d)(hi:i<n)(hj:j<n)(hb:AR w n i j (d i j))(za:∀L,(∀L',lj w i j L'->L<=L')->lj w i j L->L<inf):adF w i j (if d i j<inf then U (d i j)else Z):=by
 have low:∀L,lj w i j L->d i j<=L:=λL hL=>by have⟨C10,c1,c2⟩:=hL.via hn;exact ayn (hb C10 c2) c1
 split
 next bX=>exact⟨h.real i j hi hj bX,low⟩
 .rename_i L4;intro L hL;have key:∀m,(∃L,L<=m/\lj w i j L)->∃L,lj w i j L/\∀L',lj w i j L'->L<=L':=by
   intro m;induction m with
   |zero=>grind
   |succ m ih=>
    rintro⟨L,hl,hw⟩;by_cases he:∃L,L<=m/\lj w i j L
    .exact ih he
    grind
  obtain⟨L0,h1,h2⟩:=key L ⟨L,ayd _,hL⟩;grind
end
structure Nd where
 n:Nat
 len:Nat
 e:Nat
 num:Nat
 deriving DecidableEq,Inhabited
def Iz(a b:Nd):Bool:=O (a.len<b.len\/(a.len=b.len/\(a.e<b.e\/(a.e=b.e/\a.num<b.num))))
def Fa(a b:Nd):Prop:=Iz b a=J
theorem adG(a b:Nd):Iz a b=Y↔(a.len<b.len\/(a.len=b.len/\(a.e<b.e\/(a.e=b.e/\a.num<b.num)))):=by simp[Iz]
theorem Lu(a b:Nd):Fa a b↔¬(b.len<a.len\/(b.len=a.len/\(b.e<a.e\/(b.e=a.e/\b.num<a.num)))):=by unfold Fa;rw[<-adG];simp
def MW(a:Nd):Fa a a:=by rw[Lu];omega
theorem Fb{a b c:Nd}(h:Fa a b)(k:Fa b c):Fa a c:=by rw[Lu]at*;omega
def Hn{a b:Nd}(h:Iz a b=Y):Fa a b:=by grind [Lu,adG]
def aiL{a b:Nd}(h:Fa a b):a.len<=b.len:=by rw[Lu]at h;omega
def fx(a:List Nd)(i:Nat):Nd:=a.getD i default
variable{a:List Nd}{i:Nat}
theorem V9(h:i<a.length):a[i]?=U (fx a i):=by simp[fx,List.getD,h]
def swp(a:List Nd)(i k:Nat):List Nd:=(a.set i (fx a k)).set k (fx a i)
@[simp] theorem nm(a:List Nd)(i k:Nat):(swp a i k).length=a.length:=by simp[swp]
def aoy(a:List Nd)(i j:Nat)(x:Nd)(h:i<a.length):fx (a.set i x) j=if j=i then x else fx a j:=by unfold fx List.getD;grind
def tU(a:List Nd)(i k j:Nat)(hi:i<a.length)(hk:k<a.length):fx (swp a i k) j=if j=k then fx a i else if j=i then fx a k else fx a j:=by simp_all[swp,aoy]
def MX{x:Nd}:x∈a↔∃i,i<a.length/\fx a i=x:=by
 rw[ayc];constructor
 .grind [V9]
 .rintro⟨i,hi,h⟩;exact⟨i,by rw[V9 hi,h]⟩
theorem O8{k:Nat}(hi:i<a.length)(hk:k<a.length)(x:Nd):x∈swp a i k↔x∈a:=by
 rw[MX,MX];constructor
 .rintro⟨j,hj,h⟩;rw[tU _ _ _ _ hi hk]at h;split at h
  .exact⟨i,hi,h⟩
  .split at h
   .exact⟨k,hk,h⟩
   .exact⟨j,by simpa using hj,h⟩
 .rintro⟨j,hj,h⟩;by_cases e1:j=i
  .subst e1;refine⟨k,by simpa using hk,?_⟩;rw[tU _ _ _ _ hi hk,BY rfl,h]
  .by_cases e2:j=k
   .subst e2;refine⟨i,by simpa using hi,?_⟩;rw[tU _ _ _ _ hi hk];simp_all
   .exact⟨j,by simpa using hj,by simp_all[tU,IT]⟩
def Hp(a:List Nd):Prop:=∀j,0<j->j<a.length->Fa (fx a ((j-1)/2)) (fx a j)
theorem Hp.min(h:Hp a):∀j,j<a.length->Fa (fx a 0) (fx a j):=by
 intro j;induction j using Nat.strongRecOn with
 |ind j ih=>
  intro hj;by_cases h0:j=0
  .subst h0;exact MW _
  .exact Fb (ih ((j-1)/2) aa aa) (h j aa hj)
def UpI(a:List Nd)(i:Nat):Prop:=(∀j,0<j->j<a.length->j≠i->Fa (fx a ((j-1)/2)) (fx a j))/\∀c,0<c->c<a.length->(c-1)/2=i->0<i->Fa (fx a ((i-1)/2)) (fx a c)
def UpI.done(h:UpI a i)(hi:i<a.length)(hs:i=0\/Iz (fx a i) (fx a ((i-1)/2))=J):Hp a:=by
 intro j h0 hj;by_cases e:j=i
 .subst e;rcases hs with hs|hs
  .omega
  .exact hs
 .exact h.1 j h0 hj e
def UpI.step(h:UpI a i)(h0:0<i)(hi:i<a.length)(hb:Iz (fx a i) (fx a ((i-1)/2))=Y):UpI (swp a i ((i-1)/2)) ((i-1)/2):=by
 have hp:(i-1)/2<a.length:=aa
 have hpi:(i-1)/2<i:=aa
 obtain⟨p,XB⟩:∃p,p=(i-1)/2:=⟨_,rfl⟩;rw[<-XB]at hp hpi hb⊢;have hle:=Hn hb;refine⟨λj j0 hj cO=>?_,λc c0 hc hcp Ta=>?_⟩
 .rw[nm]at hj;rw[tU _ _ _ _ hi hp,tU _ _ _ _ hi hp,IT cO];by_cases e1:j=i
  .simp_all
  .rw[IT e1];by_cases e2:(j-1)/2=p
   .rw[BY e2];have:=h.1 j j0 hj e1;grind [Fb]
   .rw[IT e2];by_cases e3:(j-1)/2=i
    .rw[BY e3];have:=h.2 j j0 hj e3 h0;simp_all
    .rw[IT e3];exact h.1 j j0 hj e1
 .rw[nm]at hc;have hpp:(p-1)/2≠p/\(p-1)/2≠i:=aa
  rw[tU _ _ _ _ hi hp,tU _ _ _ _ hi hp,IT hpp.1,IT hpp.2];have h1:=h.1 p Ta hp aa;by_cases e1:c=p
  .omega
  .rw[IT e1];by_cases e2:c=i
   .rw[BY e2];omega
   .rw[IT e2];have:=h.1 c c0 hc e2;grind [Fb]
theorem UpI.start(h:Hp a)(x:Nd):UpI (a++[x]) a.length:=by
 have O1:∀j,j<a.length->fx (a++[x]) j=fx a j:=λj hj=>by simp[fx,List.getD,azb hj]
 refine⟨λj j0 hj cO=>?_,λc c0 hc hcp h0=>?_⟩
 .have:j<a.length:=by simp at hj;omega
  rw[O1 _ aa,O1 _ this];exact h j j0 this
 .simp at hc;omega
def DnI(a:List Nd)(i:Nat):Prop:=(∀j,0<j->j<a.length->(j-1)/2≠i->Fa (fx a ((j-1)/2)) (fx a j))/\∀c,0<c->c<a.length->(c-1)/2=i->0<i->Fa (fx a ((i-1)/2)) (fx a c)
def DnI.done(h:DnI a i)(hs:∀c,0<c->c<a.length->(c-1)/2=i->Fa (fx a i) (fx a c)):Hp a:=by
 intro j h0 hj;by_cases e:(j-1)/2=i
 .simp_all
 .exact h.1 j h0 hj e
def DnI.step{k:Nat}(h:DnI a i)(hk:k<a.length)(hki:k=2*i+1\/k=2*i+2)(akQ:∀c,0<c->c<a.length->(c-1)/2=i->Fa (fx a k) (fx a c))(hb:Iz (fx a k) (fx a i)=Y):DnI (swp a i k) k:=by
 have hi:i<a.length:=aa
 have hle:=Hn hb;have hpk:(k-1)/2=i:=aa
 refine⟨λj j0 hj cO=>?_,λc c0 hc hcp hk0=>?_⟩
 .rw[nm]at hj;rw[tU _ _ _ _ hi hk,tU _ _ _ _ hi hk,IT cO];by_cases e1:j=k
  .simp_all
  .rw[IT e1];by_cases e2:(j-1)/2=i
   .grind
   .rw[IT e2];by_cases e3:j=i
    .rw[BY e3];have:=h.2 k aa hk hpk aa;rw[e3];omega
    .rw[IT e3];exact h.1 j j0 hj e2
 .rw[nm]at hc;rw[tU _ _ _ _ hi hk,tU _ _ _ _ hi hk,hpk,IT aa,BY rfl,IT aa,IT aa];have:=h.1 c c0 hc aa;simp_all
theorem DnI.start(h:Hp a)(cO:0<a.length):DnI ((swp a 0 (a.length-1)).take (a.length-1)) 0:=by
 have hl:((swp a 0 (a.length-1)).take (a.length-1)).length=a.length-1:=ae
 have O1:∀j,0<j->j<a.length-1->fx ((swp a 0 (a.length-1)).take (a.length-1)) j=fx a j:=λj j0 hj=>by
  have:fx ((swp a 0 (a.length-1)).take (a.length-1)) j=fx (swp a 0 (a.length-1)) j:=by simp[fx,List.getD,azr hj]
  rw[this,tU _ _ _ _ aa aa,IT aa,IT aa]
 refine⟨λj j0 hj cO=>?_,λc _ _ _ h0=>aa⟩;rw[hl]at hj;rw[O1 j j0 hj,O1 _ aa aa];exact h j j0 aa
def adH(cO:0<a.length)(y:Nd):(y∈(swp a 0 (a.length-1)).take (a.length-1)->y∈a)/\(y∈a->y=fx a 0\/y∈(swp a 0 (a.length-1)).take (a.length-1)):=by
 refine⟨λh=>(O8 cO aa y).1 (ay8 h),λh=>?_⟩;have h:=(O8 (i:=0) (k:=a.length-1) cO aa y).2 h;rw[MX]at h;obtain⟨j,hj,e⟩:=h;rw[nm]at hj;by_cases hl:j=a.length-1
 .simp_all[tU,BY]
 .right;rw[ayc];refine⟨j,?_⟩;rw[azr aa,V9 (by simpa using hj),e]
def afH{S R A:Type}{body:S->(S->Option R)->Option R}(st:A->S)(I10:A->Prop)(m:A->Nat)(fin:A->Option R->Prop)(h:∀a,I10 a->∀rec,(∃a',I10 a'/\m a'<m a/\body (st a) rec=rec (st a'))\/(∃r,fin a r/\body (st a) rec=r)):∀N a,I10 a->m a<N->∃a' r,I10 a'/\fin a' r/\bT body N (st a)=r:=by
 intro N;induction N with
 |zero=>omega
 |succ N ih=>
  intro a hI hm;simp only[bT];rcases h a hI (bT body N)with⟨a',h1,h2,h3⟩|⟨r,h1,h2⟩
  .grind
  grind
def up:Nat->List Nd->Nat->List Nd
 |0,a,_=>a
 |f+1,a,i=>if 0<i/\Iz (fx a i) (fx a ((i-1)/2))=Y then up f (swp a i ((i-1)/2)) ((i-1)/2)else a
def push(a:List Nd)(x:Nd):List Nd:=up (a.length+1) (a++[x]) a.length
def Uc(a:List Nd)(i:Nat):Nat:=if 2*i+1+1<a.length/\Iz (fx a (2*i+1+1)) (fx a (2*i+1))=Y then 2*i+1+1 else 2*i+1
def down:Nat->List Nd->Nat->List Nd
 |0,a,_=>a
 |f+1,a,i=>if a.length<=2*i+1 then a else if Iz (fx a (Uc a i)) (fx a i)=Y then down f (swp a i (Uc a i)) (Uc a i)else a
def abB(a:List Nd):List Nd:=(swp a 0 (a.length-1)).take (a.length-1)
def rest(a:List Nd):List Nd:=down (a.length+1) (abB a) 0
def am6:∀(f:Nat){a:List Nd}{i:Nat},i<f->i<a.length->UpI a i->Hp (up f a i)/\(up f a i).length=a.length/\∀x,x∈up f a i↔x∈a
 |0,_,_,h,_,_=>aa
 |f+1,a,i,hf,hi,h=>by
  unfold up;split
  .rename_i hc;have hp:(i-1)/2<a.length:=aa
   obtain⟨h1,h2,h3⟩:=am6 f (a:=swp a i ((i-1)/2)) (i:=(i-1)/2) aa (by rw[nm];omega) (h.step hc.1 hi hc.2);simp_all[nm,O8]
  next hc=>refine⟨h.done hi ?_,rfl,λx=>Iff.rfl⟩;grind
variable{a:List Nd}
def alF(h:Hp a)(x:Nd):Hp (push a x)/\(push a x).length=a.length+1/\∀y,y∈push a x↔y∈a\/y=x:=by simp_all[am6,UpI.start,push]
def aiM{i:Nat}(h:¬a.length<=2*i+1):Uc a i<a.length/\(Uc a i=2*i+1\/Uc a i=2*i+2)/\∀c,0<c->c<a.length->(c-1)/2=i->Fa (fx a (Uc a i)) (fx a c):=by
 unfold Uc;split
 .rename_i hc;refine⟨aa,.inr rfl,λc c0 hl hp=>?_⟩;have:c=2*i+1\/c=2*i+1+1:=aa
  rcases this with rfl|rfl
  .exact Hn hc.2
  .exact MW _
 .rename_i hc;refine⟨aa,.inl rfl,λc c0 hl hp=>?_⟩;have:c=2*i+1\/c=2*i+1+1:=aa
  rcases this with rfl|rfl
  .exact MW _
  .unfold Fa;simp_all
def adI:∀(f:Nat){a:List Nd}{i:Nat},a.length<=f+i->DnI a i->Hp (down f a i)/\(down f a i).length=a.length/\∀x,x∈down f a i↔x∈a
 |0,a,i,hf,h=>⟨h.done λc c0 hc hp=>aa,rfl,λx=>Iff.rfl⟩
 |f+1,a,i,hf,h=>by
  unfold down;split
  .exact⟨h.done λc c0 hc hp=>aa,rfl,λx=>Iff.rfl⟩
  .rename_i hl;have⟨k1,k2,k3⟩:=aiM hl;split
   next hb=>obtain⟨h1,h2,h3⟩:=adI f (a:=swp a i (Uc a i)) (i:=Uc a i) (by rw[nm];omega) (h.step k1 k2 k3 hb);grind [nm,O8]
   next hb=>refine⟨h.done λc c0 hc hp=>Fb ?_ (k3 c c0 hc hp),rfl,λx=>Iff.rfl⟩;simp_all[Fa,ay1]
def Wa(h:Hp a)(cO:0<a.length):Hp (rest a)/\(rest a).length=a.length-1/\(∀y∈rest a,y∈a)/\(∀y∈a,y=fx a 0\/y∈rest a)/\∀y∈a,(fx a 0).len<=y.len:=by
 have hl:(abB a).length=a.length-1:=by simp[abB]
 obtain⟨h1,h2,h3⟩:=adI (a.length+1) (a:=abB a) (i:=0) aa (DnI.start h cO);refine⟨h1,by unfold rest;omega,λy hy=>?_,λy hy=>?_,λy hy=>?_⟩
 .exact(adH cO y).1 ((h3 y).1 hy)
 .rcases(adH cO y).2 hy with h|h
  .exact .inl h
  .exact .inr ((h3 y).2 h)
 .obtain⟨j,hj,rfl⟩:=MX.1 hy;exact aiL (h.min j hj)
structure Ed where
 f:Nat
 t:Nat
 c:Nat
 deriving DecidableEq,Inhabited
def ew(E:List Ed)(i j c:Nat):Prop:=(⟨i,j,c⟩:Ed)∈E
abbrev Lab:=Option (Nat×Nat)
abbrev vD:=Nat->Lab
def I0(o:vD)(v:Nat)(l:Lab):vD:=λu=>if u=v then l else o u
def Ho(E:List Ed)(o:vD):Nat:=E.countP λy=>(o y.f).isNone
def SD(n:Nat)(o:vD):Nat:=(I n).countP λv=>(o v).isSome
def Wb(E:List Ed)(s v L:Nat):Prop:=(v=s/\L=0)\/lj (ew E) s v L
structure DI(E:List Ed)(n s B:Nat)(o:vD)(pu:Nat)(H:List Nd):Prop where
 hp:Hp H
 node:∀x∈H,x.n<n
 real:∀x∈H,Wb E s x.n x.len
 oR:∀v L e,v<n->o v=U (L,e)->Wb E s v L/\∀L',Wb E s v L'->L<=L'
 front:∀u L e v c,u<n->o u=U (L,e)->(⟨u,v,c⟩:Ed)∈E->o v=Z->∃x∈H,x.n=v/\x.len<=L+c
 src:o s=Z->∃x∈H,x.n=s/\x.len=0
 aiN:∀x∈H,x.len<=B*SD n o/\x.e<=SD n o
 aoz:∀v L e,v<n->o v=U (L,e)->L<=B*n/\e<=n
 cnt:pu+Ho E o<=1+E.length
 aoA:H.length<=pu
def adJ(n:Nat)(o:vD):SD n o<=n:=by grind [SD,List.countP_le_length,I]
def Ol{A:Type}[DecidableEq A]{p q:A->Bool}{v:A}:∀{l:List A},l.Nodup->v∈l->(∀u,u≠v->p u=q u)->p v=J->q v=Y->l.countP q=l.countP p+1
 |a::l,hn,hv,hpq,h0,h1=>by
  rw[azA]at hn;rw[List.countP_cons,List.countP_cons];by_cases e:a=v
  .grind [List.countP_congr]
  .have Tl:v∈l:=ao
   rw[Ol hn.2 Tl hpq h0 h1,hpq a e];omega
variable{o:vD}
def aiO{n:Nat}{v:Nat}{l:Nat×Nat}(hv:v<n)(h:o v=Z):SD n (I0 o v (U l))=SD n o+1:=Ol (p:=λv=>(o v).isSome) (q:=λu=>(I0 o v (U l) u).isSome) (v:=v) aAe (ayB.2 hv) (λu hu=>by simp[I0,hu]) (by simp[h]) (by simp[I0])
def DI.least{E:List Ed}{n s B:Nat}{pu:Nat}{H:List Nd}(h:DI E n s B o pu H)(hE:∀y∈E,y.f<n/\y.t<n){v L:Nat}(hv:o v=Z)(hw:Wb E s v L):∃x∈H,x.len<=L:=by
 cases hs:o s with
 |none=>have⟨x,h1,_,h2⟩:=h.src hs;grind
 |some l=>
  obtain⟨Ls,es⟩:=l;rcases hw with⟨rfl,_⟩|hw
  .rw[hs]at hv;cases hv
  have key:∀{v L:Nat},lj (ew E) s v L->o v=Z->∃x∈H,x.len<=L:=by
   intro v L hw;induction hw with
   | @GL j c hc=>intro hv;have nJ:s<n:=(hE _ hc).1;have⟨x,h1,_,h2⟩:=h.front s Ls es j c nJ hs hc hv;have:=(h.oR s Ls es nJ hs).2 0 (.inl ⟨rfl,rfl⟩);grind
   | @snoc m j A c hA hc ih=>
    intro hv;cases hm:o m with
    |none=>grind
    |some l=>obtain⟨Lm,em⟩:=l;have nJ:m<n:=(hE _ hc).1;have⟨x,h1,_,h2⟩:=h.front m Lm em j c nJ hm hc hv;have:=(h.oR m Lm em nJ hm).2 A (.inr hA);grind
  exact key hw hv
def DI.skip{E:List Ed}{n s B:Nat}{pu:Nat}{H:List Nd}(h:DI E n s B o pu H)(cO:0<H.length)(xP:(o (fx H 0).n).isSome=Y):DI E n s B o pu (rest H):=by
 have⟨r1,r2,r3,r4,r5⟩:=Wa h.hp cO;have other:∀x∈H,o x.n=Z->x∈rest H:=λx hx hn=>ao
 refine⟨r1,λx hx=>h.node x (r3 x hx),λx hx=>h.real x (r3 x hx),h.oR,λu L e v c hu ho he hv=>?_,λhs=>?_,λx hx=>h.aiN x (r3 x hx),h.aoz,h.cnt,by rw[r2];have:=h.aoA;omega⟩
 .obtain⟨x,x1,x2,x3⟩:=h.front u L e v c hu ho he hv;grind
 .obtain⟨x,x1,x2,x3⟩:=h.src hs;grind
def vd(o:vD)(x:Nd):List Ed->Nat->List Nd->Nat×List Nd
 |[],pu,H=>(pu,H)
 |z::es,pu,H=>if(o z.t).isNone=Y then vd o x es (pu+1) (push H ⟨z.t,x.len+z.c,x.e+1,pu⟩)else vd o x es pu H
def Rh{o:vD}{x:Nd}:∀{es:List Ed}{pu:Nat}{H:List Nd},Hp H->∃k,k<=es.length/\(vd o x es pu H).1=pu+k/\(vd o x es pu H).2.length=H.length+k/\Hp (vd o x es pu H).2/\(∀y∈(vd o x es pu H).2,y∈H\/∃z∈es,o z.t=Z/\y.n=z.t/\y.len=x.len+z.c/\y.e=x.e+1)/\(∀y∈H,y∈(vd o x es pu H).2)/\∀z∈es,o z.t=Z->∃y∈(vd o x es pu H).2,y.n=z.t/\y.len=x.len+z.c
 |[],pu,H,h=>⟨0,ayd _,rfl,rfl,h,λy hy=>.inl hy,λy hy=>hy,λz hz=>by cases hz⟩
 |z::es,pu,H,h=>by
  unfold vd;split
  .rename_i hz;have hz:o z.t=none:=by simpa using hz
   have⟨p1,p2,p3⟩:=alF h ⟨z.t,x.len+z.c,x.e+1,pu⟩;obtain⟨k,k1,k2,k3,k4,k5,k6,k7⟩:=Rh (o:=o) (x:=x) (es:=es) (pu:=pu+1) p1;refine⟨k+1,ah,aa,aa,k4,λy hy=>?_,λy hy=>k6 y ((p3 y).2 (.inl hy)),λz' hz' hn=>?_⟩
   .grind
   .rcases aye.1 hz' with rfl|hz'
    .exact⟨_,k6 _ ((p3 _).2 (.inr rfl)),rfl,rfl⟩
    .exact k7 z' hz' hn
  .rename_i hz;obtain⟨k,k1,k2,k3,k4,k5,k6,k7⟩:=Rh (o:=o) (x:=x) (es:=es) (pu:=pu) h;refine⟨k,ah,k2,k3,k4,λy hy=>?_,k6,λz' hz' hn=>?_⟩
   .simp_all
   grind
theorem aiP(E:List Ed)(o:vD)(v:Nat)(l:Nat×Nat)(h:o v=Z):Ho E o=Ho E (I0 o v (U l))+(E.filter λy=>y.f==v).length:=by
 unfold Ho;induction E with
 |nil=>rfl
 |cons y E ih=>grind [I0]
variable{E:List Ed}
def DI.settle{n s B:Nat}{o:vD}{pu:Nat}{H:List Nd}(h:DI E n s B o pu H)(hE:∀y∈E,y.f<n/\y.t<n/\y.c<=B)(cO:0<H.length)(JN:o (fx H 0).n=Z):DI E n s B (I0 o (fx H 0).n (U ((fx H 0).len,(fx H 0).e))) (vd (I0 o (fx H 0).n (U ((fx H 0).len,(fx H 0).e))) (fx H 0) (E.filter λy=>y.f==(fx H 0).n) pu (rest H)).1 (vd (I0 o (fx H 0).n (U ((fx H 0).len,(fx H 0).e))) (fx H 0) (E.filter λy=>y.f==(fx H 0).n) pu (rest H)).2/\(vd (I0 o (fx H 0).n (U ((fx H 0).len,(fx H 0).e))) (fx H 0) (E.filter λy=>y.f==(fx H 0).n) pu (rest H)).2.length+Ho E (I0 o (fx H 0).n (U ((fx H 0).len,(fx H 0).e)))<H.length+Ho E o:=by
 have⟨r1,r2,r3,r4,r5⟩:=Wa h.hp cO;obtain⟨x,hx⟩:∃x,x=fx H 0:=⟨_,rfl⟩;rw[<-hx]at JN r4 r5⊢;have L6:x∈H:=MX.2 ⟨0,cO,hx.symm⟩;have hxn:=h.node x L6;obtain⟨o1,ho1⟩:∃o1,o1=I0 o x.n (U (x.len,x.e)):=⟨_,rfl⟩;rw[<-ho1];have oo:∀v,o1 v=if v=x.n then U (x.len,x.e)else o v:=λv=>by rw[ho1];rfl
 have on:∀v,o1 v=Z->v≠x.n/\o v=none:=λv hv=>ao
 obtain⟨k,k1,k2,k3,k4,k5,k6,k7⟩:=Rh (o:=o1) (x:=x) (es:=E.filter λy=>y.f==x.n) (pu:=pu) r1;have hs:SD n o1=SD n o+1:=by rw[ho1];exact aiO hxn JN
 have TA:Ho E o=Ho E o1+(E.filter λy=>y.f==x.n).length:=by grind [aiP]
 have mem:∀z,z∈(E.filter λy=>y.f==x.n)↔z∈E/\z.f=x.n:=λz=>by simp[ayr]
 have go:∀z,z∈E->z.f=x.n->lj (ew E) s z.t (x.len+z.c):=λz hz hf=>by
  have he:ew E x.n z.t z.c:=by
   unfold ew;have:(⟨x.n,z.t,z.c⟩:Ed)=z:=by rw[<-hf]
   rw[this];omega
  rcases h.real x L6 with⟨e1,e2⟩|hw
  .rw[e2,azf];rw[e1]at he;exact .GL he
  .exact .snoc hw he
 have other:∀y∈H,y.n≠x.n->y∈(vd o1 x (E.filter λy=>y.f==x.n) pu (rest H)).2:=λy hy hn=>ao
 refine⟨⟨k4,λy hy=>?_,λy hy=>?_,λv L e hv ho=>?_,λu L e v c hu ho he hv=>?_,λhs'=>?_,λy hy=>?_,λv L e hv ho=>?_,?_,?_⟩,?_⟩
 .rcases k5 y hy with h1|⟨z,z1,z2,z3,_⟩
  .exact h.node y (r3 y h1)
  grind
 .rcases k5 y hy with h1|⟨z,z1,z2,z3,z4,_⟩
  .exact h.real y (r3 y h1)
  .rw[z3,z4];exact .inr (go z ((mem z).1 z1).1 ((mem z).1 z1).2)
 .rw[oo]at ho;split at ho
  next e'=>simp only[tc,aq4]at ho;obtain⟨rfl,rfl⟩:=ho;subst e';refine⟨h.real x L6,λL' hL=>?_⟩;obtain⟨y,y1,y2⟩:=h.least (λy hy=>⟨(hE y hy).1,(hE y hy).2.1⟩) JN hL;grind
  .exact h.oR v L e hv ho
 .obtain⟨v1,v2⟩:=on v hv;rw[oo]at ho;split at ho
  .grind
  .obtain⟨y,y1,y2,y3⟩:=h.front u L e v c hu ho he v2;grind
 .obtain⟨v1,v2⟩:=on s hs';have⟨y,y1,y2,y3⟩:=h.src v2;grind
 .rw[hs,Nat.mul_succ];rcases k5 y hy with h1|⟨z,z1,z2,z3,z4,z5⟩
  .have:=h.aiN y (r3 y h1);omega
  .have:=h.aiN x L6;grind
 .rw[oo]at ho;split at ho
  .simp only[tc,aq4]at ho;obtain⟨rfl,rfl⟩:=ho;have h1:=h.aiN x L6;have h2:=adJ n o;have h3:B*SD n o<=B*n:=azy _ h2;omega
  .exact h.aoz v L e hv ho
 .have:=h.cnt;omega
 .have:=h.aoA;omega
 omega
theorem DI.start{n s B:Nat}(hs:s<n):DI E n s B (λ_=>Z) 1 [⟨s,0,0,0⟩]:=by
 refine⟨λj j0 hj=>by simp at hj;omega,λx hx=>?_,λx hx=>?_,λv L e _ h=>(by cases h),λu L e v c _ h=>(by cases h),λ_=>⟨⟨s,0,0,0⟩,ae,rfl,rfl⟩,λx hx=>?_,λv L e _ h=>(by cases h),?_,ae⟩
 .simp_all
 .simp at hx;subst hx;exact .inl ⟨rfl,rfl⟩
 .simp_all
 simp[Ho]
def DI.done{n s B:Nat}{o:vD}{pu:Nat}(h:DI E n s B o pu [])(hE:∀y∈E,y.f<n/\y.t<n/\y.c<=B){v:Nat}(hv:v<n):match o v with
 |some (L,_)=>L<=B*n/\Wb E s v L/\∀L',Wb E s v L'->L<=L'
 |none=>∀L',¬Wb E s v L':=by
 cases ho:o v with
 |some l=>obtain⟨L,e⟩:=l;exact⟨(h.aoz v L e hv ho).1,h.oR v L e hv ho⟩
 |none=>
  intro L' hL
  obtain⟨x,hx,_⟩:=h.least (λy hy=>⟨(hE y hy).1,(hE y hy).2.1⟩) ho hL
  cases hx
set_option maxRecDepth 100000
def Nd.pv(x:Nd):PV:=.agg [.int .i64 x.n,.int .i64 x.len,.int .i64 x.e,.int .i64 x.num]
abbrev sD(a:List Nd):List PV:=a.map Nd.pv
def nd0(x:Nd):cell x.pv 0=.int .i64 x.n:=rfl
def nd1(x:Nd):cell x.pv 1=.int .i64 x.len:=rfl
def nd2(x:Nd):cell x.pv 2=.int .i64 x.e:=rfl
def nd3(x:Nd):cell x.pv 3=.int .i64 x.num:=rfl
def ndE(x:Nd):PV.agg [cell x.pv 0,cell x.pv 1,cell x.pv 2,cell x.pv 3]=x.pv:=rfl
def fG{a:List Nd}{i:Nat}(h:i<a.length):(sD a)[i]?=U (fx a i).pv:=by rw[AT,V9 h];rfl
def asu(a b c:PV):cell (.agg [a,b,c]) 0=a:=rfl
def aoB(a b c:PV):cell (.agg [a,b,c]) 1=b:=rfl
def asv(a b c:PV):cell (.agg [a,b,c]) 2=c:=rfl
def ag3(a b c:PV):asAgg 3 (.agg [a,b,c])=U ():=rfl
def alG(a b:Nd):mB [.agg [cell a.pv 0,cell a.pv 1,cell a.pv 2],.agg [cell b.pv 0,cell b.pv 1,cell b.pv 2]]=U (.bool (O (a.len<b.len\/(a.len=b.len/\a.e<b.e)))):=by
 simp only[mB,CZ,ag3,asu,aoB,asv,nd0,nd1,nd2,By,ab,asInt];by_cases h1:a.len<b.len
 .simp[h1]
 .by_cases h2:a.len=b.len
  .simp[h2]
  grind
def D5(a:List Nd)(pu:Nat)(i k:Nat)(hi:i<a.length)(hk:k<a.length):bl [.rp [.fn 282 [],.rs 4 (sD a),.int .i64 pu],.int .i64 i,.int .i64 k]=U (.bool (Iz (fx a i) (fx a k))):=by
 have e0:aJ 4 (PV.rs 4 (sD a))=U (sD a):=bm
 simp only[bl,fH,aoB,asv,e0,ab,asInt,By,af,fG hi,fG hk,alG,asBool,nd3];grind [fx,Iz]
def half(i:Nat)(h:0<i)(hi:i<4611686018427387904):C .i64 ((C .i64 ((i:Int)-1)).tdiv 2)=(((i-1)/2:Nat):Int):=by
 have e1:C .i64 ((i:Int)-1)=((i-1:Nat):Int):=sH
 have e2:((i-1:Nat):Int).tdiv 2=(((i-1)/2:Nat):Int):=rfl;grind [bJ]
def JZ{i:Nat}{es:List PV}(h:i<es.length):aU (i:Int) es.length:=⟨aa,aa⟩
def Wc(a:List Nd)(i k:Nat):((sD a).set i (fx a k).pv).set k (fx a i).pv=sD (swp a i k):=by simp[swp,azx]
def adK(DY:TY2->Option PV)(t1:PV)(es:List PV)(ln ix:Int)(pu:Nat)(out:List PV)(x0 x1 x2:PV):∀(f N:Nat)(a:List Nd)(i:Nat),i<f->f<=N->i<a.length->a.length<4611686018427387904->bT (rG DY) N ((i:Int),t1,es,ln,ix,(pu:Int),out,x0,x1,x2,sD a,())=DY (t1,es,ln,C .i64 (ix+1),out,(pu:Int),x0,x1,x2,sD (up f a i),())
 |0,_,_,_,h,_,_,_=>aa
 |f+1,0,_,_,_,h,_,_=>aa
 |f+1,N+1,a,i,hf,hN,hi,ha=>by
  simp only[bT];unfold rG up;by_cases h0:0<i
  .have hp:(i-1)/2<a.length:=aa
   have hg:O ((i:Int)>0)=true:=ah
   simp only[hg,cond_true,half i h0 aa,D5 a pu i ((i-1)/2) hi hp,ab,asBool];by_cases hb:Iz (fx a i) (fx a ((i-1)/2))=Y
   .have hl1:i<(sD a).length:=by simpa using hi
    have hl2:(i-1)/2<(sD a).length:=aa
    have hl3:(i-1)/2<((sD a).set i (fx a ((i-1)/2)).pv).length:=by simpa using hp
    have Ud:((sD a).set i (fx a ((i-1)/2)).pv)[(i-1)/2]?=U (fx a ((i-1)/2)).pv:=by rw[ayO];rw[IT aa,fG hp]
    simp only[hb,By,BY (JZ hl1),BY (JZ hl2),BY (JZ hl3),anj,fG hi,fG hp,ab,ndE,Ud,Wc,h0,aBt];exact adK DY t1 es ln ix pu out x0 x1 x2 f N (swp a i ((i-1)/2)) ((i-1)/2) aa aa (by rw[nm];omega) (by rw[nm];omega)
   simp_all
  grind
def B2(v:Nat):Lab->PV
 |none=>.agg [.int .i64 v,.int .i64 (-1),.int .i64 (-1)]
 |some (L,e)=>.agg [.int .i64 v,.int .i64 (L:Int),.int .i64 (e:Int)]
def fE(n:Nat)(o:vD):List PV:=(I n).map λv=>B2 v (o v)
def Ed.pv(y:Ed):PV:=.agg [.int .i64 y.f,.int .i64 y.t,.int .i64 y.c]
def D6(n:Nat)(o:vD):(fE n o).length=n:=by simp[fE]
def D7{n v:Nat}(o:vD)(h:v<n):(fE n o)[v]?=U (B2 v (o v)):=by simp[fE,h]
def afI{n v:Nat}(o:vD)(l:Nat×Nat)(h:v<n):(fE n o).set v (B2 v (U l))=fE n (I0 o v (U l)):=by
 apply ayI;intro i;rw[ayO];by_cases e:v=i
 .subst e;rw[BY rfl,BY (by rw[D6];omega),D7 _ h];simp[I0]
 .rw[IT e];by_cases hi:i<n
  .simp_all[D7,I0,Ne.symm]
  simp_all[ay0,D6]
def asw(v:Nat)(l:Lab):∃z:Int,asInt .i64 (cell (B2 v l) 2)=U z/\(O (z<0)=l.isNone)/\O (z>=0)=l.isSome:=by
 cases l with
 |none=>exact⟨-1,rfl,rfl,rfl⟩
 |some p=>obtain⟨L,e⟩:=p;exact⟨e,rfl,ae,ae⟩
def ed1(y:Ed):cell y.pv 1=.int .i64 y.t:=rfl
def ed2(y:Ed):cell y.pv 2=.int .i64 y.c:=rfl
def MO(n:Int):asInt .i64 (.int .i64 n)=U n:=bm
def Ue(gb:PV×List PV×Int×List PV×Unit->Option PV)(t1:PV)(n:Nat)(o:vD)(x:Nd)(es:List Ed)(ht:∀z∈es,z.t<n)(hn:n<4294967296)(hx:x.len<4611686018427387904)(hxe:x.e<4611686018427387904)(hc:∀z∈es,z.c<4611686018427387904)(W2:es.length<4611686018427387904):∀(m N k pu:Nat)(H:List Nd),m+k=es.length->m<N->pu+m<4294967296->H.length+m<4294967296->bT (fV cD gb) N (t1,es.map Ed.pv,((es.length:Nat):Int),(k:Int),fE n o,(pu:Int),.int .i64 x.n,.int .i64 x.len,.int .i64 x.e,sD H,())=gb (t1,fE n o,((vd o x (es.drop k) pu H).1:Int),sD (vd o x (es.drop k) pu H).2,())
 |_,0,_,_,_,_,h,_,_=>aa
 |0,N+1,k,pu,H,hk,hN,hpu,hH=>by
  simp only[bT];unfold fV;dsimp only;have hg:O ((k:Int)<((es.length:Nat):Int))=false:=ah
  rw[hg,ay3 aa];rfl
 |m+1,N+1,k,pu,H,hk,hN,hpu,hH=>by
  have ih:=Ue gb t1 n o x es ht hn hx hxe hc W2 m N (k+1);simp only[bT];generalize bT (fV cD gb) N=rec at ih⊢;unfold fV;dsimp only;have jK:k<es.length:=aa
  have hg:O ((k:Int)<((es.length:Nat):Int))=true:=ah
  obtain⟨z,hz⟩:∃z,es[k]?=U z:=⟨_,ta jK⟩;have hzm:z∈es:=awU hz;have hzt:=ht z hzm;have L4:(es.map Ed.pv)[k]?=U z.pv:=av
  have aiQ:es.drop k=z::es.drop (k+1):=by grind [List.drop_eq_getElem_cons,List.getElem?_eq_getElem,Option.some.inj]
  have⟨w,w1,w2,w3⟩:=asw z.t (o z.t);have nJ:aU (z.t:Int) (fE n o).length:=JZ (by rw[D6];omega);rw[aiQ,vd];simp only[hg,By,af,L4,ab,ed1,ed2,MO,BY nJ,anj,D7 o hzt,w1,w2];by_cases JN:(o z.t).isNone=Y
  .have e1:C .i64 ((x.len:Int)+(z.c:Int))=((x.len+z.c:Nat):Int):=sH
   have e2:sD H++[PV.agg [.int .i64 z.t,.int .i64 ((x.len+z.c:Nat):Int),.int .i64 ((x.e+1:Nat):Int),.int .i64 pu]]=sD (H++[⟨z.t,x.len+z.c,x.e+1,pu⟩]):=by simp[sD,Nd.pv]
   have e3:(sD (H++[⟨z.t,x.len+z.c,x.e+1,pu⟩])).length=H.length+1:=ae
   have e4:C .i64 (((H.length+1:Nat):Int)-1)=(H.length:Int):=sH
   have bG:(H.length+1)*32<=au/\0<32:=NF
   simp only[JN,By,e1,ag (aa:x.e<9223372036854775807),e2,e3,e4,BY bG,ag (aa:pu<9223372036854775807),kC];refine(adK rec t1 (es.map Ed.pv) ((es.length:Nat):Int) (k:Int) (pu+1) (fE n o) _ _ _ (H.length+1) rounds (H++[⟨z.t,x.len+z.c,x.e+1,pu⟩]) H.length aa fb ae ah).trans ?_;rw[ag aa];rw[show up (H.length+1) (H++[⟨z.t,x.len+z.c,x.e+1,pu⟩]) H.length=push H ⟨z.t,x.len+z.c,x.e+1,pu⟩from rfl];refine ih (pu+1) _ aa aa aa ?_;have:(push H ⟨z.t,x.len+z.c,x.e+1,pu⟩).length=H.length+1:=by
    unfold push;have key:∀(f:Nat)(a:List Nd)(i:Nat),(up f a i).length=a.length:=by
     intro f;induction f with
     |zero=>intro a i;rfl
     |succ f ih=>
      intro a i;unfold up;split
      .rw[ih,nm]
      rfl
    rw[key];simp
   omega
  .simp only[JN,AI,OF,ag (aa:k<9223372036854775807)];grind
structure Gr(E:List Ed)(n:Nat)(ks vs:List PV):Prop where
 small:n<4294967296
 len:E.length<1073741824
 node:∀y∈E,y.f<n/\y.t<n/\y.c<=1073741824
 look:∀v:Nat,v<n->aJ 3 (eY (.int .i64 v) (.rs 0 []) (ks.zip vs))=U ((E.filter λy=>y.f==v).map Ed.pv)
section
variable {E:List Ed} {n:Nat} {ks vs:List PV}
def labelled(o:vD)(x:Nd):vD:=I0 o x.n (U (x.len,x.e))
def KR(gb:PV×List PV×Int×List PV×Unit->Option PV)(E:List Ed)(n:Nat)(ks vs:List PV)(o:vD)(x:Nd)(pu:Nat)(H:List Nd):Option PV:=
 if(o x.n).isSome=Y then gb (.rm 3 ks vs,fE n o,(pu:Int),sD H,())
 else gb (.rm 3 ks vs,fE n (labelled o x),((vd (labelled o x) x (E.filter λy=>y.f==x.n) pu H).1:Int),sD (vd (labelled o x) x (E.filter λy=>y.f==x.n) pu H).2,())
structure Sm(n:Nat)(E:List Ed)(x:Nd)(pu:Nat)(H:List Nd):Prop where
 node:x.n<n
 len:x.len<4611686018427387904
 e:x.e<4611686018427387904
 pu:pu<=1073741824
 H:H.length<=1073741824
def IK(hG:Gr E n ks vs)(gb:PV×List PV×Int×List PV×Unit->Option PV)(o:vD)(x:Nd)(pu:Nat)(H:List Nd)(hS:Sm n E x pu H)(A:Int->PV->Int->Option PV):((asInt .i64 (.int .i64 x.n)).bind λn23=>if aU n23 (fE n o).length then(fE n o)[n23.toNat]?.bind λe24=>(asInt .i64 (cell e24 2)).bind λn25=>if O (n25>=0)=Y then gb (.rm 3 ks vs,fE n o,(pu:Int),sD H,())else(asInt .i64 (.int .i64 x.n)).bind λn26=>if aU n26 (fE n o).length then(fE n o)[n26.toNat]?.bind λe27=>(asInt .i64 (.int .i64 x.n)).bind λn28=>dX 3 (.rm 3 ks vs) (A n26 e27 n28) λawv aww=>(aJ 3 (eY (.int .i64 n28) (.rs 0 []) (awv.zip aww))).bind λasx=>cD.run (fV cD gb) (.rm 3 ks vs,asx,(asx.length:Int),0,(fE n o).set n26.toNat (.agg [.int .i64 x.n,.int .i64 x.len,.int .i64 x.e]),(pu:Int),.int .i64 x.n,.int .i64 x.len,.int .i64 x.e,sD H,())else Z else Z)=KR gb E n ks vs o x pu H:=by
 have nJ:aU (x.n:Int) (fE n o).length:=JZ (by rw[D6];exact hS.node)
 have⟨w,w1,w2,w3⟩:=asw x.n (o x.n)
 simp only[MO,ab,BY nJ,anj,D7 o hS.node,w1,w3,dX,By,hG.look x.n hS.node,kC]
 unfold KR
 by_cases hs:(o x.n).isSome=Y
 .simp only[hs,By]
 .simp only[hs,AI,OF];have e1:(fE n o).set x.n (.agg [.int .i64 x.n,.int .i64 x.len,.int .i64 x.e])=fE n (labelled o x):=afI o (x.len,x.e) hS.node;rw[e1];have hl:(E.filter λy=>y.f==x.n).length<=E.length:=ayN ..;have bt:∀z∈E.filter (λy=>y.f==x.n),z∈E:=λz hz=>(ayr.1 hz).1;have h1:=hG.len;have h2:=hS.pu;have h3:=hS.H;have:=Ue gb (.rm 3 ks vs) n (labelled o x) x (E.filter λy=>y.f==x.n) (λz hz=>(hG.node z (bt z hz)).2.1) hG.small hS.len hS.e (λz hz=>by have:=(hG.node z (bt z hz)).2.2;omega) aa (E.filter λy=>y.f==x.n).length rounds 0 pu H aa fb aa aa;simp_all
def aiR{a:List Nd}{i:Nat}(h:2*i+1+1<a.length/\Iz (fx a (2*i+1+1)) (fx a (2*i+1))=Y):Uc a i=2*i+1+1:=BY h
def afJ{a:List Nd}{i:Nat}(h:¬(2*i+1+1<a.length/\Iz (fx a (2*i+1+1)) (fx a (2*i+1))=Y)):Uc a i=2*i+1:=IT h
def Uf(hG:Gr E n ks vs)(gb:PV×List PV×Int×List PV×Unit->Option PV)(o:vD)(x:Nd)(pu:Nat)(z1 z2 z3:Int):∀(f N:Nat)(a:List Nd)(i:Nat),a.length<=f+i->f<N->i<4294967296->Sm n E x pu a->bT (fy cD gb) N ((i:Int),.rm 3 ks vs,(pu:Int),z1,z2,z3,.int .i64 x.n,.int .i64 x.len,.int .i64 x.e,fE n o,sD a,())=KR gb E n ks vs o x pu (down f a i)
 |_,0,_,_,_,h,_,_=>aa
 |0,N+1,a,i,hf,hN,hi,hS=>by
  simp only[bT];generalize bT (fy cD gb) N=rec;unfold fy down;dsimp only;have e1:C .i64 (C .i64 (2*(i:Int))+1)=((2*i+1:Nat):Int):=sH
  have hg:O (((2*i+1:Nat):Int)>=((sD a).length:Int))=true:=ah
  rw[e1,BY hg];exact IK hG gb o x pu a hS _
 |f+1,N+1,a,i,hf,hN,hi,hS=>by
  have ih:=Uf hG gb o x pu z1 z2 z3 f N;simp only[bT];generalize bT (fy cD gb) N=rec at ih⊢;have e1:C .i64 (C .i64 (2*(i:Int))+1)=((2*i+1:Nat):Int):=sH
  have e2:C .i64 (((2*i+1:Nat):Int)+1)=((2*i+1+1:Nat):Int):=ag aa;unfold fy down;dsimp only;rw[e1,e2];by_cases hl:a.length<=2*i+1
  .have hg:O (((2*i+1:Nat):Int)>=((sD a).length:Int))=true:=ah
   rw[BY hg,BY hl];exact IK hG gb o x pu a hS _
  .have hg:¬O (((2*i+1:Nat):Int)>=((sD a).length:Int))=true:=ah
   rw[IT hg,IT hl];have hlen:=hS.H;have sC:i<a.length:=aa
   have hi1:i<(sD a).length:=by simpa using sC
   have⟨k1,k2,_⟩:=aiM hl;have hk1:Uc a i<(sD a).length:=by simpa using k1
   have hk3:Uc a i<((sD a).set i (fx a (Uc a i)).pv).length:=by simpa using k1
   have Ud:((sD a).set i (fx a (Uc a i)).pv)[Uc a i]?=U (fx a (Uc a i)).pv:=by rw[ayO,IT aa,fG k1]
   have fin:=ih (swp a i (Uc a i)) (Uc a i) (by rw[nm];omega) aa aa ⟨hS.node,hS.len,hS.e,hS.pu,by rw[nm];omega⟩;by_cases hc:2*i+1+1<a.length/\Iz (fx a (2*i+1+1)) (fx a (2*i+1))=Y
   .have hk:=aiR hc;have hd:O (((2*i+1+1:Nat):Int)<((sD a).length:Int))=true:=ah
    rw[hd];rw[hk]at hk1 hk3 Ud fin k1⊢;simp only[cond_true,D5 a pu (2*i+1+1) (2*i+1) aa aa,hc.2,ab,asBool,By,D5 a pu (2*i+1+1) i k1 sC];by_cases hb:Iz (fx a (2*i+1+1)) (fx a i)=Y
    .rw[BY hb]at*;simp only[hb,aq3,AI,OF,BY (JZ hi1),BY (JZ hk1),BY (JZ hk3),anj,fG sC,fG k1,ab,ndE,Ud,Wc];omega
    .rw[IT hb];have mH:(!Iz (fx a (2*i+1+1)) (fx a i))=true:=by simpa using hb
     rw[BY mH];exact IK hG gb o x pu a hS _
   .have hk:=afJ hc;have hd:(bif O (((2*i+1+1:Nat):Int)<((sD a).length:Int))then(bl [.rp [.fn 282 [],.rs 4 (sD a),.int .i64 (pu:Int)],.int .i64 ((2*i+1+1:Nat):Int),.int .i64 ((2*i+1:Nat):Int)]).bind λr53=>(asBool r53).bind λb54=>U b54 else U J)=U false:=by
     by_cases h2:2*i+1+1<a.length
     .have hd:O (((2*i+1+1:Nat):Int)<((sD a).length:Int))=true:=ah
      have hb:Iz (fx a (2*i+1+1)) (fx a (2*i+1))=false:=av
      rw[hd,cond_true,D5 a pu (2*i+1+1) (2*i+1) h2 aa,ab,hb];rfl
     grind
    rw[hd];rw[hk]at hk1 hk3 Ud fin k1⊢;simp only[ab,asBool,AI,OF,D5 a pu (2*i+1) i k1 sC];by_cases hb:Iz (fx a (2*i+1)) (fx a i)=Y
    .rw[BY hb]at*;simp only[hb,aq3,AI,OF,BY (JZ hi1),BY (JZ hk1),BY (JZ hk3),anj,fG sC,fG k1,ab,ndE,Ud,Wc];omega
    .rw[IT hb];have mH:(!Iz (fx a (2*i+1)) (fx a i))=true:=by simpa using hb
     rw[BY mH];exact IK hG gb o x pu a hS _
end
section
variable {E:List Ed} {n:Nat} {ks vs:List PV}
def afK(hG:Gr E n ks vs)(gb:PV×List PV×Int×List PV×Unit->Option PV)(o:vD)(pu:Nat)(H:List Nd)(hS:∀x∈H,Sm n E x pu H):ic cD (.rm 3 ks vs,fE n o,(pu:Int),sD H,()) gb=if H.length=0 then U (.rs 3 (fE n o))else KR gb E n ks vs o (fx H 0) pu (rest H):=by
 unfold ic;dsimp only;by_cases h0:H.length=0
 .simp_all
 .have hg:¬(((sD H).length:Int)==0)=true:=av
  rw[IT hg,IT h0];have hx:fx H 0∈H:=MX.2 ⟨0,aa,rfl⟩;have hsm:=hS _ hx;have hH:=hsm.H;have hl:((sD H).length:Int)=(H.length:Int):=ae
  have e1:C .i64 ((H.length:Int)-1)=((H.length-1:Nat):Int):=sH
  have i0:aU (0:Int) (sD H).length:=JZ (i:=0) aa;have hl1:H.length-1<(sD H).length:=aa
  have hl3:H.length-1<((sD H).set 0 (fx H (H.length-1)).pv).length:=ah
  have g0:(sD H)[0]?=U (fx H 0).pv:=fG aa;have gl:(sD H)[H.length-1]?=U (fx H (H.length-1)).pv:=fG aa;have g3:∃q,((sD H).set 0 (fx H (H.length-1)).pv)[H.length-1]?=U q:=⟨_,ta hl3⟩;obtain⟨q,g3⟩:=g3;have z0:Int.toNat 0=0:=rfl;have pn:(0:Int)<=0/\0<=((H.length-1:Nat):Int)/\((H.length-1:Nat):Int)<=(((((sD H).set 0 (fx H (H.length-1)).pv).set (H.length-1) (fx H 0).pv).length:Nat):Int):=ae
  simp only[hl,e1,BY i0,z0,g0,ab,BY (JZ hl1),anj,gl,ndE,BY (JZ hl3),g3,aBn,BY pn,aBo];simp only[nd0,nd1,nd2,Wc,<-azW,kC];rw[BY ae];have:=Uf hG gb o (fx H 0) pu 0 0 0 (H.length+1) rounds (abB H) 0 (by simp[abB];omega) fb aa ⟨hsm.node,hsm.len,hsm.e,hsm.pu,by simp[abB];omega⟩;exact this
def DI.small{s B:Nat}{o:vD}{pu:Nat}{H:List Nd}(h:DI E n s B o pu H)(hG:Gr E n ks vs)(hB:B<=1073741824)(hn:n<=64):∀x∈H,Sm n E x pu H:=λx hx=>by have h1:=h.aiN x hx;have h2:=adJ n o;have h3:B*SD n o<=1073741824*64:=azM hB aa;have h4:=h.cnt;have h5:=h.aoA;have h6:=hG.len;exact⟨h.node x hx,aa,aa,aa,aa⟩
def afL(hG:Gr E n ks vs){s B:Nat}(hs:s<n)(hB:B<=1073741824)(hEB:∀y∈E,y.c<=B)(hn:n<=64):∃o pu,DI E n s B o pu []/\cD.run (ic cD) (.rm 3 ks vs,fE n (λ_=>Z),1,[PV.agg [.int .i64 s,.int .i64 0,.int .i64 0,.int .i64 0]],())=U (.rs 3 (fE n o)):=by
 have hE:∀y∈E,y.f<n/\y.t<n/\y.c<=B:=λy hy=>⟨(hG.node y hy).1,(hG.node y hy).2.1,hEB y hy⟩;have hlen:=hG.len;obtain⟨a,r,hI,⟨h0,hr⟩,xM⟩:=afH (body:=ic cD) (A:=vD×Nat×List Nd) (λa=>(PV.rm 3 ks vs,fE n a.1,(a.2.1:Int),sD a.2.2,())) (λa=>DI E n s B a.1 a.2.1 a.2.2) (λa=>a.2.2.length+Ho E a.1) (λa r=>a.2.2=[]/\r=U (.rs 3 (fE n a.1))) (λa hI gb=>by
  obtain⟨o,pu,H⟩:=a;have hI:DI E n s B o pu H:=hI;dsimp only;rw[afK hG gb o pu H (hI.small hG hB hn)];by_cases hH:H.length=0
  .simp_all
  .left;rw[IT hH];have cO:0<H.length:=aa
   unfold KR;by_cases xP:(o (fx H 0).n).isSome=Y
   .rw[BY xP];refine⟨(o,pu,rest H),hI.skip cO xP,?_,rfl⟩;have:=(Wa hI.hp cO).2.1;grind
   .rw[IT xP];have JN:o (fx H 0).n=none:=by simpa using xP
    have⟨s1,s2⟩:=hI.settle hE cO JN;exact⟨(_,_,_),s1,s2,rfl⟩) rounds ((λ_=>Z),1,[⟨s,0,0,0⟩]) (DI.start hs) (by
  grind [Ho,List.countP_le_length,List.length_cons,List.length_nil,rounds])
 obtain⟨o,pu,H⟩:=a;dsimp only at h0 hr hI;subst h0;refine⟨o,pu,hI,?_⟩;rw[kC,<-hr,<-xM];rfl
theorem afM(hG:Gr E n ks vs){s B:Nat}(hs:s<n)(hB:B<=1073741824)(hEB:∀y∈E,y.c<=B)(hn:n<=64):∃o pu,DI E n s B o pu []/\jV [.int .i64 n,.rm 3 ks vs,.int .i64 s]=U (.rs 3 (fE n o)):=by
 have⟨o,pu,hI,h⟩:=afL hG hs hB hEB hn;refine⟨o,pu,hI,?_⟩;have bG:(0:Int)<=(n:Int)/\(n:Int)<=(n:Int)/\n*24<=au/\0<24/\0<3:=by grind [au]
 simp only[jV,yo,MO,ab,dX,By,BY bG,anj,ayD];have fill:∀k,k<=n->((I n).map λv=>if v<k then B2 v Z else PV.agg [.int .i64 0,.int .i64 0,.int .i64 0]).length=n:=λk _=>ae
 refine aM (λk=>(PV.rm 3 ks vs,(s:Int),(n:Int),(k:Int),(I n).map (λv=>if v<k then B2 v Z else PV.agg [.int .i64 0,.int .i64 0,.int .i64 0]),())) n (λk hk rec=>?_) (λrec=>?_) fb ?_
 .unfold kH;dsimp only;have hg:O ((k:Int)<(n:Int))=true:=ah
  have nJ:aU (k:Int) ((I n).map λv=>if v<k then B2 v Z else PV.agg [.int .i64 0,.int .i64 0,.int .i64 0]).length:=JZ av;have fG:((I n).map λv=>if v<k then B2 v Z else PV.agg [.int .i64 0,.int .i64 0,.int .i64 0])[k]?=U (PV.agg [.int .i64 0,.int .i64 0,.int .i64 0]):=by simp[hk]
  have xP:((I n).map λv=>if v<k then B2 v Z else PV.agg [.int .i64 0,.int .i64 0,.int .i64 0]).set k (.agg [.int .i64 k,.int .i64 (-1),.int .i64 (-1)])=(I n).map λv=>if v<k+1 then B2 v Z else PV.agg [.int .i64 0,.int .i64 0,.int .i64 0]:=by
   apply ayI;intro i;rw[ayO];by_cases e:k=i
   .subst e;simp[hk,B2]
   .rw[IT e];by_cases hi:i<n
    .simp only[AT,azz hi,IN];grind
    simp_all
  rw[BY hg,BY nJ,anj,fG,ab,xP,ag aa]
 .unfold kH;dsimp only;have hg:¬O ((n:Int)<(n:Int))=true:=ae
  have e0:C .i64 ((1:Nat)-1:Int)=0:=bm
  have e1:C .i64 (0+1)=1:=bm
  have aeR:((I n).map λv=>if v<n then B2 v Z else PV.agg [.int .i64 0,.int .i64 0,.int .i64 0])=fE n (λ_=>Z):=by simp_all[fE,ayE,BY]
  rw[IT hg,aeR,e1];refine Eq.trans ?_ h;rfl
 .congr 1;have:((I n).map λv=>if v<0 then B2 v Z else PV.agg [.int .i64 0,.int .i64 0,.int .i64 0])=List.replicate n (PV.agg [.int .i64 0,.int .i64 0,.int .i64 0]):=acI
  rw[this];rfl
end
def alH{S R:Type}{body:S->(S->Option R)->Option R}{s:S}{r:Option R}(h:∀rec,body s rec=r):cD.run body s=r:=aM (λ_=>s) 0 (λk hk=>aa) h bj rfl
def B3(n k:Nat)(F:Nat->PV)(z:PV):List PV:=(I n).map λv=>if v<k then F v else z
def YK(n k:Nat)(F:Nat->PV)(z:PV):(B3 n k F z).length=n:=by simp[B3]
def YM{n k:Nat}{F:Nat->PV}{z:PV}(hk:k<n):(B3 n k F z)[k]?=U z:=by simp[B3,hk]
def YN{n k:Nat}{F:Nat->PV}{z:PV}(hk:k<n):(B3 n k F z).set k (F k)=B3 n (k+1) F z:=by
 apply ayI;intro i;rw[ayO];by_cases e:k=i
 .subst e;simp[B3,hk]
 .rw[IT e];unfold B3;grind
def Ug(n:Nat)(F:Nat->PV)(z:PV):B3 n 0 F z=List.replicate n z:=by unfold B3;apply ayI;grind
def YO(n:Nat)(F:Nat->PV)(z:PV):B3 n n F z=(I n).map F:=by simp_all[B3,ayE,BY]
def Wd:Lab->Int
 |none=> -1
 |some (L,_)=>L
def awx(v:Nat)(l:Lab):asInt .i64 (cell (B2 v l) 1)=U (Wd l):=by
 cases l with
 |none=>rfl
 |some p=>rfl
def abC(n:Nat)(hn:n<=64)(o:vD):mb [.rs 3 (fE n o)]=U (.rs 1 ((I n).map λv=>.int .i64 (Wd (o v)))):=by
 have e0:aJ 3 (.rs 3 (fE n o))=U (fE n o):=bm
 have bG:(0:Int)<=((n:Nat):Int)/\((n:Nat):Int)<=((n:Nat):Int)/\n*8<=au/\0<8/\0<1:=by grind [au]
 simp only[mb,vE,e0,ab,D6,anj,BY bG];refine aM (λk=>(fE n o,(n:Int),(k:Int),B3 n k (λv=>.int .i64 (Wd (o v))) (.int .i64 0),())) n (λk hk rec=>?_) (λrec=>?_) fb ?_
 .unfold pF;dsimp only;have hg:O ((k:Int)<(n:Int))=true:=ah
  rw[BY hg,af,D7 o hk,ab,awx,ab,BY (JZ (by rw[YK];omega)),anj,YM hk,ab,ag aa];simp_all[YN,Wd]
 .simp[pF,IT,YO]
 .rw[Ug];rfl
def aiS(i n:Nat)(h:i<n):eI [.int .i64 i,.rp [.int .i64 n]]=U (.bool J):=by
 have h1:O ((i:Int)<0)=false:=ae
 have h2:O ((i:Int)>=(n:Int))=false:=ah
 simp only[eI,vq,MO,ab,h1,cond_false,h2]
def ed0(y:Ed):cell y.pv 0=.int .i64 y.f:=rfl
def aiT(E:List Ed)(n:Nat)(hn:n<=64)(hE:E.length<=4096)(h:∀y∈E,y.f<n/\y.t<n/\y.c<=1073741824):oS [.int .i64 n,.rs 3 (E.map Ed.pv),.rs 0 []]=U (.int .i64 0):=by
 have e0:aJ 3 (.rs 3 (E.map Ed.pv))=U (E.map Ed.pv):=bm
 have e1:aJ 1 (.rs 0 [])=U []:=bm
 have h1:O ((n:Int)<0)=false:=ae
 have h2:O ((n:Int)>64)=false:=ah
 have h3:¬O (((E.map Ed.pv).length:Int)>4096)=true:=ah
 simp only[oS,AS,MO,e0,e1,ab,h1,h2,cond_false,AI,OF,IT h3];refine aM (λk=>(([]:List PV),E.map Ed.pv,((E.map Ed.pv).length:Int),(k:Int),(n:Int),())) E.length (λk hk rec=>?_) (λrec=>?_) fb rfl
 .unfold tV;dsimp only;have hg:O ((k:Int)<((E.map Ed.pv).length:Int))=true:=ah
  obtain⟨z,hz⟩:∃z,E[k]?=U z:=⟨_,ta hk⟩;have L4:(E.map Ed.pv)[k]?=U z.pv:=av
  have⟨a1,a2,a3⟩:=h z (awU hz);have h4:O ((z.c:Int)<0)=false:=ae
  have h5:O ((z.c:Int)>1073741824)=false:=ah
  simp only[hg,By,af,L4,ab,ed0,ed1,ed2,MO,aiS _ _ a1,aiS _ _ a2,asBool,cond_false,AI,OF,h4,h5,ag (aa:k<9223372036854775807)]
 simp[tV,IT,alH,B4]
abbrev We:=List (Nat×List Ed)
def YP(z:Ed):We->We
 |[]=>[(z.f,[z])]
 |(a,l)::r=>if z.f=a then(a,l++[z])::r else(a,l)::YP z r
def AU(v:Nat):We->List Ed
 |[]=>[]
 |(a,l)::r=>if v=a then l else AU v r
def YQ(m:We):List (PV×PV):=m.map λx=>(.int .i64 x.1,.lJ 3 (x.2.map Ed.pv))
def aiU(a b:Nat):cz (PV.int .i64 a).cells (PV.int .i64 b).cells=O (a=b):=by
 have:((a:Int)==(b:Int))=O (a=b):=ao
 simp_all[PV.cells,cz,peq,azw]
def asy(v:Nat):∀m:We,W9 3 (.int .i64 v) (YQ m)=U ((AU v m).map Ed.pv)
 |[]=>rfl
 |(a,l)::r=>by
  have ih:=asy v r;unfold YQ at ih⊢;simp only[ayb,W9,AU,aiU];by_cases h:v=a
  .simp[h,fZ]
  simp_all
theorem adL(z:Ed):∀m:We,eu (.int .i64 z.f) (.lJ 3 ((AU z.f m).map Ed.pv++[z.pv])) (Dr (.int .i64 z.f) (YQ m))=YQ (YP z m)
 |[]=>bm
 |(a,l)::r=>by
  have ih:=adL z r;unfold YQ at ih⊢;simp only[ayb,Dr,YP,AU,aiU];by_cases h:z.f=a
  .subst h;simp[eu,aiU]
  simp_all[ayf,AI,OF,eu,aiU,ayb]
theorem Uh(v:Nat)(z:Ed):∀m:We,AU v (YP z m)=AU v m++(if z.f=v then[z]else[])
 |[]=>by simp only[YP,AU];grind
 |(a,l)::r=>by
  simp only[YP];by_cases h:z.f=a
  .subst h;simp only[By,AU];grind
  .rw[IT h];simp only[AU];by_cases hv:v=a
   .simp_all
   simp_all[IT,Uh]
def J7(E:List Ed):We:=E.foldl (λm z=>YP z m) []
theorem Ui(E:List Ed)(z:Ed):J7 (E++[z])=YP z (J7 E):=by simp[J7]
theorem Uj(v:Nat)(E:List Ed):AU v (J7 E)=E.filter λy=>y.f==v:=by
 rw[<-az8 E];induction E.reverse with
 |nil=>rfl
 |cons z l ih=>grind [List.reverse_cons,Ui,Uh]
def asz(v:Nat):∀m:We,aJ 3 (eY (.int .i64 v) (.rs 0 []) (((YQ m).map λx=>x.1).zip ((YQ m).map λx=>x.2.vi)))=U ((AU v m).map Ed.pv)
 |[]=>bm
 |(a,l)::r=>by
  have ih:=asz v r;unfold YQ at ih⊢;simp only[ayb,List.zip_cons_cons,eY,aiU,AU];by_cases h:v=a
  .simp[h,PV.vi,aJ]
  simp_all
def Wf(E:List Ed)(hE:E.length<=4096):jW [.rs 3 (E.map Ed.pv),.bool J]=U (.rm 3 ((YQ (J7 E)).map λx=>x.1) ((YQ (J7 E)).map λx=>x.2.vi)):=by
 have e0:aJ 3 (.rs 3 (E.map Ed.pv))=U (E.map Ed.pv):=bm
 simp only[jW,rH,e0,ab,asBool];refine aM (λk=>(J,E.map Ed.pv,((E.map Ed.pv).length:Int),(k:Int),YQ (J7 (E.take k)),())) E.length (λk hk rec=>?_) (λrec=>?_) fb bm
 .unfold mT;dsimp only;have hg:O ((k:Int)<((E.map Ed.pv).length:Int))=true:=ah
  obtain⟨z,hz⟩:∃z,E[k]?=U z:=⟨_,ta hk⟩;have L4:(E.map Ed.pv)[k]?=U z.pv:=av
  have htk:E.take (k+1)=E.take k++[z]:=by rw[aAj,hz];rfl
  have hce:PV.agg [cell z.pv 0,cell z.pv 1,cell z.pv 2]=z.pv:=rfl;have hlen:((AU z.f (J7 (E.take k))).map Ed.pv++[z.pv]).length*24<=au/\0<24:=by
   have:(AU z.f (J7 (E.take k))).length<=E.length:=by grind [Uj,Nat.le_trans,List.length_filter_le,List.length_take]
   grind [List.length_append,List.length_map,List.length_cons,List.length_nil,au]
  rw[BY hg,af,L4,ab,IT ae];have awy:PV.agg [.int .i64 z.f,cell z.pv 1,cell z.pv 2]=z.pv:=rfl;simp only[ed0,MO,ab,asy,awy,BY hlen];grind [adL,Ui,ag]
 simp[mT,IT,ays]
def aiV(E:List Ed)(n:Nat)(hn:n<=64)(hE:E.length<=4096)(h:∀y∈E,y.f<n/\y.t<n/\y.c<=1073741824):Gr E n ((YQ (J7 E)).map λx=>x.1) ((YQ (J7 E)).map λx=>x.2.vi):=⟨aa,aa,h,λv _=>by rw[asz,Uj]⟩
end Go.Ab.Nw
namespace Go.Ab.Nw
set_option maxRecDepth 100000
def IsD(E:List Ed)(M:Nat)(s v:Nat)(d:Int):Prop:=(d= -1/\∀L,¬Wb E s v L)\/∃L:Nat,d=L/\L<=M/\Wb E s v L/\∀L',Wb E s v L'->L<=L'
def IsD.unique{E:List Ed}{M M' s v:Nat}{d d':Int}(h:IsD E M s v d)(h':IsD E M' s v d'):d=d':=by
 rcases h with⟨e,h⟩|⟨L,e,_,h1,h2⟩
 .rcases h' with⟨e',_⟩|⟨L',_,_,h1',_⟩
  .omega
  simp_all
 .rcases h' with⟨_,h'⟩|⟨L',e',_,h1',h2'⟩
  .exact absurd h1 (h' L)
  grind
def Wb.mem{E E':List Ed}(h:∀y,y∈E->y∈E'){s v L:Nat}(hr:Wb E s v L):Wb E' s v L:=by
 rcases hr with hr|hr
 .exact .inl hr
 .exact .inr (hr.mono λi j c hc=>h _ hc)
def IsD.mem{E E':List Ed}(h:∀y,y∈E↔y∈E'){M s v:Nat}{d:Int}(hd:IsD E M s v d):IsD E' M s v d:=by
 rcases hd with⟨e,h1⟩|⟨L,e,hM,h1,h2⟩
 .exact .inl ⟨e,λL hL=>h1 L (hL.mem λy hy=>(h y).2 hy)⟩
 .exact .inr ⟨L,e,hM,h1.mem λy hy=>(h y).1 hy,λL' hL=>h2 L' (hL.mem λy hy=>(h y).2 hy)⟩
def FX(n:Nat)(D:Nat->Int):List PV:=(I n).map λv=>.int .i64 (D v)
def ee(n:Nat)(D:Nat->Nat->Int):List PV:=(I n).map λs=>.rs 1 (FX n (D s))
variable{D:Nat->Nat->Int}
def YR{n:Nat}{D':Nat->Nat->Int}(h:∀s v,s<n->v<n->D s v=D' s v):ee n D=ee n D':=by unfold ee;apply ayE;simp_all[FX,congr,ayE]
def aiW(E:List Ed)(n B:Nat)(hn:n<=64)(hE:E.length<=4096)(hB:B<=1073741824)(h:∀y∈E,y.f<n/\y.t<n/\y.c<=B):∃D:Nat->Nat->Int,(∀s v,s<n->v<n->IsD E (B*n) s v (D s v))/\lA [.int .i64 n,.rs 3 (E.map Ed.pv)]=U (.b8 [.rs 1 (ee n D),.int .i64 0]):=by
 have h':∀y∈E,y.f<n/\y.t<n/\y.c<=1073741824:=λy hy=>⟨(h y hy).1,(h y hy).2.1,ao⟩;have hG:=aiV E n hn hE h';have each:∀s,∃o:vD,s<n->(∃pu,DI E n s B o pu [])/\jV [.int .i64 n,.rm 3 ((YQ (J7 E)).map λx=>x.1) ((YQ (J7 E)).map λx=>x.2.vi),.int .i64 s]=U (.rs 3 (fE n o)):=λs=>by
  by_cases hs:s<n
  .grind [afM]
  .exact⟨λ_=>Z,λh=>absurd h hs⟩
 have⟨o,ho⟩:=Classical.axiomOfChoice each;refine⟨λs v=>Wd (o s v),λs v hs hv=>?_,?_⟩
 .obtain⟨⟨pu,hI⟩,_⟩:=ho s hs;have:=hI.done h hv;cases hl:o s v with
  |none=>rw[hl]at this;exact .inl ⟨by dsimp only;rw[hl];rfl,this⟩
  |some p=>obtain⟨L,e⟩:=p;rw[hl]at this;exact .inr ⟨L,by dsimp only;rw[hl];rfl,this.1,this.2.1,this.2.2⟩
 .have e0:aJ 3 (.rs 3 (E.map Ed.pv))=U (E.map Ed.pv):=bm
  have bG:(0:Int)<=(n:Int)/\(n:Int)<=(n:Int)/\n*24<=au/\0<24/\0<1:=by grind [au]
  have hz:((0:Int) !=0)=false:=rfl;simp only[lA,Fc,MO,e0,ab,aiT E n hn hE h',hz,AI,OF,Wf E hE,dX,By,anj,BY bG,ayD];refine aM (λk=>((n:Int),PV.rm 3 ((YQ (J7 E)).map λx=>x.1) ((YQ (J7 E)).map λx=>x.2.vi),(n:Int),(k:Int),B3 n k (λs=>.rs 1 (FX n λv=>Wd (o s v))) (.rs 0 []),())) n (λk hk rec=>?_) (λrec=>?_) fb ?_
  .unfold qG;dsimp only;have hg:O ((k:Int)<(n:Int))=true:=ah
   have e3:aJ 3 (.rs 3 (fE n (o k)))=U (fE n (o k)):=bm
   have e1:aJ 1 (.rs 1 ((I n).map λv=>PV.int .i64 (Wd (o k v))))=U ((I n).map λv=>PV.int .i64 (Wd (o k v))):=bm
   rw[BY hg,(ho k hk).2,ab,e3,ab,abC n hn,ab,e1,ab,BY (JZ (by rw[YK];omega)),anj,YM hk,ab,ag aa];simp_all[YN,FX,Wd]
  .unfold qG;dsimp only;rw[IT ae,YO];rfl
  .rw[Ug];rfl
def aiX(E E':List Ed)(n B:Nat)(hn:n<=64)(hE:E'.length<=4096)(hB:B<=1073741824)(h:∀y∈E,y.f<n/\y.t<n/\y.c<=B)(he:∀y,y∈E↔y∈E')(hD:∀s v,s<n->v<n->IsD E (B*n) s v (D s v)):lA [.int .i64 n,.rs 3 (E'.map Ed.pv)]=U (.b8 [.rs 1 (ee n D),.int .i64 0]):=by obtain⟨D',d1,d2⟩:=aiW E' n B hn hE hB λy hy=>h y ((he y).2 hy);rw[d2,YR λs v hs hv=>((hD s v hs hv).mem he).unique (d1 s v hs hv)]
structure Fp where
 a:Nat
 b:Nat
 c:Nat
 free:Bool
 deriving DecidableEq
def Fp.pv(p:Fp):PV:=.agg [.int .i64 p.a,.int .i64 p.b,.int .i64 p.c,.bool p.free]
def fp0(p:Fp):cell p.pv 0=.int .i64 p.a:=rfl
def fp1(p:Fp):cell p.pv 1=.int .i64 p.b:=rfl
def fp2(p:Fp):cell p.pv 2=.int .i64 p.c:=rfl
def fp3(p:Fp):cell p.pv 3=.bool p.free:=rfl
def Fp.ed(p:Fp):Ed:=⟨p.a,p.b,p.c⟩
def C0(z:Ed):List Ed->List Ed
 |[]=>[z]
 |e::r=>if z.f=e.f/\z.t=e.t then z::r else e::C0 z r
def Lv(a b:Nat):List Ed->Option Nat
 |[]=>Z
 |e::r=>if a=e.f/\b=e.t then U e.c else Lv a b r
def Ri(a b:Nat)(z:Ed):∀m,Lv a b (C0 z m)=if a=z.f/\b=z.t then U z.c else Lv a b m
 |[]=>rfl
 |e::r=>by
  simp only[C0];by_cases h:z.f=e.f/\z.t=e.t
  .simp_all[BY,Lv,IT]
  .rw[IT h];simp only[Lv];by_cases h2:a=e.f/\b=e.t
   .grind
   simp_all[IT,Ri]
def YS(z e:Ed):∀m,e∈C0 z m->e=z\/e∈m
 |[],h=>by simp[C0]at h;exact .inl h
 |x::r,h=>by
  simp only[C0]at h;split at h
  .rcases aye.1 h with h|h
   .exact .inl h
   .exact .inr (by simp[h])
  .rcases aye.1 h with h|h
   .exact .inr (by simp[h])
   .rcases YS z e r h with h|h
    .exact .inl h
    .exact .inr (by simp[h])
theorem YT{a b x:Nat}:∀{m:List Ed},Lv a b m=U x->∃e∈m,e.f=a/\e.t=b/\e.c=x
 |[],h=>by cases h
 |e::r,h=>by
  simp only[Lv]at h;split at h
  .simp_all
  simp_all[YT]
theorem YU(z:Ed):∀m,(C0 z m).length<=m.length+1
 |[]=>by simp[C0]
 |e::r=>by
  simp only[C0];split
  .simp
  .have:=YU z r;simp;omega
def YV(fr:Bool)(m:List Ed)(p:Fp):List Ed:=if(fr&& !p.free)=Y then m else match Lv p.a p.b m with
 |none=>C0 p.ed m
 |some x=>if p.c<x then C0 p.ed m else m
def oR(fr:Bool)(l:List Fp):List Ed:=l.foldl (YV fr) []
theorem MY(fr:Bool)(l:List Fp)(p:Fp):oR fr (l++[p])=YV fr (oR fr l) p:=by simp[oR]
def counted(fr:Bool)(l:List Fp):List Ed:=(l.filter λp=> !(fr&& !p.free)).map Fp.ed
def Wg(fr:Bool)(l:List Fp):(∀e∈oR fr l,e∈counted fr l)/\(∀e∈counted fr l,∃x,Lv e.f e.t (oR fr l)=U x/\x<=e.c)/\(oR fr l).length<=l.length:=by
 rw[<-az8 l];induction l.reverse with
 |nil=>simp[oR,counted,ayd]
 |cons p l ih=>
  rw[List.reverse_cons,MY];obtain⟨i1,i2,i3⟩:=ih;have hc:counted fr (l.reverse++[p])=counted fr l.reverse++(if(fr&& !p.free)=Y then[]else[p.ed]):=by unfold counted;grind
  rw[hc];unfold YV;by_cases h:(fr&& !p.free)=Y
  .grind
  .rw[IT h,IT h];have put:(∀e∈C0 p.ed (oR fr l.reverse),e∈counted fr l.reverse++[p.ed]):=λe he=>by
    rcases YS _ _ _ he with rfl|he
    .simp
    simp_all
   have len:(C0 p.ed (oR fr l.reverse)).length<=(l.reverse++[p]).length:=by grind [YU,oR]
   cases hb:Lv p.a p.b (oR fr l.reverse)with
   |none=>
    refine⟨put,λe he=>?_,len⟩;rw[Ri];by_cases hk:e.f=p.ed.f/\e.t=p.ed.t
    .rw[BY hk];rcases ayq.1 he with he|he
     .obtain⟨x,h1,_⟩:=i2 e he;rw[hk.1,hk.2]at h1;rw[show p.ed.f=p.a from rfl,show p.ed.t=p.b from rfl,hb]at h1;cases h1
     simp_all
    grind
   |some x=>
    dsimp only;by_cases hx:p.c<x
    .rw[BY hx];refine⟨put,λe he=>?_,len⟩;rw[Ri];by_cases hk:e.f=p.ed.f/\e.t=p.ed.t
     .rw[BY hk];rcases ayq.1 he with he|he
      .obtain⟨y,h1,h2⟩:=i2 e he;rw[hk.1,hk.2,show p.ed.f=p.a from rfl,show p.ed.t=p.b from rfl,hb]at h1;cases h1;exact⟨_,rfl,by show p.c<=e.c;omega⟩
      simp_all
     grind
    .rw[IT hx];refine⟨λe he=>aBf _ (i1 e he),λe he=>?_,by simp at i3⊢;omega⟩;rcases ayq.1 he with he|he
     .exact i2 e he
     .simp at he;subst he;exact⟨x,hb,by show x<=p.c;omega⟩
def tW(e:Ed):PV×PV:=(.agg [.int .i64 e.f,.int .i64 e.t,.bool J],.int .i64 e.c)
def asA(a b c d:Nat):cz (PV.agg [.int .i64 a,.int .i64 b,.bool J]).cells (PV.agg [.int .i64 c,.int .i64 d,.bool J]).cells=O (a=c/\b=d):=by
 have h:∀x y:Nat,((x:Int)==(y:Int))=O (x=y):=λx y=>ao
 simp only[PV.cells,cz,peq,azw,h,aAW,Bool.decide_and]
def am7(a b:Nat):∀m:List Ed,eY (.agg [.int .i64 a,.int .i64 b,.bool J]) (.int .i64 0) (m.map tW)=.int .i64 (((Lv a b m).getD 0:Nat):Int)/\pL (.agg [.int .i64 a,.int .i64 b,.bool J]) (m.map tW)=(Lv a b m).isSome
 |[]=>⟨rfl,rfl⟩
 |e::r=>by have⟨h1,h2⟩:=am7 a b r;simp only[ayb,tW,eY,pL,asA,Lv];grind
def aoC(z:Ed):∀m:List Ed,eu (.agg [.int .i64 z.f,.int .i64 z.t,.bool J]) (.int .i64 z.c) (m.map tW)=(C0 z m).map tW
 |[]=>rfl
 |e::r=>by
  have ih:=aoC z r;simp only[ayb,eu,C0];rw[show(tW e)=(PV.agg [.int .i64 e.f,.int .i64 e.t,.bool J],PV.int .i64 e.c)from rfl];simp only[asA];by_cases h:z.f=e.f/\z.t=e.t
  .simp[h,tW]
  .simp only[h,ayf,AI,OF,ayb,ih];rfl
def PY{R:Type}{n:Nat}{g:Nat->Option R}{r:R}(hn:0<n)(h:∀i,i<n->g i=U r):BO n g=U r:=by unfold BO;have hh:∃r,∀i,i<n->g i=U r:=⟨r,h⟩;rw[aBu hh];grind
def afN{n:Nat}(hn:n<=64)(r:PV)(asB:List Ed->Prop)(sx:∀acc,asB acc->∃D,lA [.int .i64 n,.rs 3 (acc.map Ed.pv)]=U (.b8 [.rs 1 D,.int .i64 0])/\r=.rs 1 D):∀(rem acc:List Ed)(N:Nat),rem.length<N->acc.length+rem.length<=4096->(∀l,(∀y,y∈l↔y∈acc\/y∈rem)->l.length=acc.length+rem.length->asB l)->bT (fP cD) N ((n:Int),acc.map Ed.pv,rem.map tW,())=U r:=by
 intro rem;generalize hk:rem.length=k;induction k generalizing rem with
 |zero=>intro acc N hN hl hg;have:rem=[]:=ayh hk;subst this;obtain⟨N,rfl⟩:∃m,N=m+1:=⟨N-1,aa⟩;simp only[bT];unfold fP;dsimp only;rw[BY (show(List.map tW []).isEmpty=Y from rfl)];obtain⟨D,h1,h2⟩:=sx acc (hg acc (λy=>ae) ae);have e2:bY 2 (.b8 [.rs 1 D,.int .i64 0])=U [.rs 1 D,.int .i64 0]:=rfl;simp_all[aJ,ab,Uz,WK,MO]
 |succ k ih=>
  intro acc N hN hl hg;obtain⟨N,rfl⟩:∃m,N=m+1:=⟨N-1,aa⟩;simp only[bT];generalize XV:bT (fP cD) N=rec;unfold fP;dsimp only
  have cO:¬(rem.map tW).isEmpty=true:=by cases rem with
   |nil=>simp at hk
   |cons _ _=>simp
  rw[IT cO];refine PY ah λi hi=>?_;have sC:i<rem.length:=by simpa using hi
  obtain⟨e,he⟩:∃e,rem[i]?=U e:=⟨_,ta sC⟩;have L4:(rem.map tW)[i]?=U (tW e):=av
  have bG:(acc.map Ed.pv++[PV.agg [.int .i64 e.f,.int .i64 e.t,.int .i64 e.c]]).length*24<=au/\0<24:=by grind [List.length_append,List.length_map,List.length_cons,List.length_nil,au]
  have JI:acc.map Ed.pv++[PV.agg [.int .i64 e.f,.int .i64 e.t,.int .i64 e.c]]=(acc++[e]).map Ed.pv:=by simp[Ed.pv]
  have aoD:(rem.map tW).eraseIdx i=(rem.eraseIdx i).map tW:=acI
  have hle:(rem.eraseIdx i).length=k:=ao
  rw[L4,ab];rw[JI]at bG;simp only[tW,ag3,asu,aoB,MO,ab,JI,BY bG,aoD];rw[<-XV];refine ih (rem.eraseIdx i) hle (acc++[e]) N aa ah λl Sw hll=>hg l (λy=>?_) (by rw[hll];simp;omega);rw[Sw];have bt:y∈rem↔y=e\/y∈rem.eraseIdx i:=by
   rw[List.mem_eraseIdx_iff_getElem?];constructor
   .grind [List.getElem?_of_mem,Option.some.inj]
   grind
  grind
def Wb.leq{E E':List Ed}(h:∀e∈E,∃e'∈E',e'.f=e.f/\e'.t=e.t/\e'.c<=e.c){s v L:Nat}(hr:Wb E s v L):∃L',L'<=L/\Wb E' s v L':=by
 rcases hr with⟨h1,h2⟩|hr
 .exact⟨L,ayd _,.inl ⟨h1,h2⟩⟩
 .obtain⟨L',l1,l2⟩:=hr.leq (w':=ew E') λi j c hc=>by
   obtain⟨e',m,e1,e2,e3⟩:=h _ hc;refine⟨e'.c,e3,?_⟩;unfold ew;have:(⟨i,j,e'.c⟩:Ed)=e':=by have e1:e'.f=i:=e1;have e2:e'.t=j:=e2;rw[<-e1,<-e2]
   rw[this];omega
  exact⟨L',l1,.inr l2⟩
def aiY{fr:Bool}{l:List Fp}{M s v:Nat}{d:Int}(h:IsD (oR fr l) M s v d):IsD (counted fr l) M s v d:=by
 have⟨b1,b2,_⟩:=Wg fr l;have low:∀{L},Wb (counted fr l) s v L->∃L',L'<=L/\Wb (oR fr l) s v L':=λhr=>hr.leq λe he=>by grind [YT]
 rcases h with⟨e,h1⟩|⟨L,e,hM,h1,h2⟩
 .refine .inl ⟨e,λL hL=>?_⟩;simp_all
 .refine .inr ⟨L,e,hM,h1.mem b1,λL' hL=>?_⟩;grind
def xq{fr:Bool}{l:List Fp}{e:Ed}(h:e∈counted fr l):∃p∈l,p.ed=e:=by unfold counted at h;grind
def afO{A:Type}[DecidableEq A]:∀(a b:List A),a.Nodup->(∀x∈a,x∈b)->a.length<=b.length:=by
 intro a;induction a with
 |nil=>simp
 |cons x a ih=>
  intro b hn hs;rw[azA]at hn;have hx:x∈b:=hs x ae;have:=ih (b.erase x) hn.2 λy hy=>ao
  grind
def edK(e:Ed):Nat×Nat:=(e.f,e.t)
def Uk(z:Ed)(k:Nat×Nat):∀m:List Ed,k∈(C0 z m).map edK↔k=edK z\/k∈m.map edK
 |[]=>by simp[C0]
 |e::r=>by
  have ih:=Uk z k r;simp only[C0];split
  .rename_i h;have:edK z=edK e:=by simp[edK,h.1,h.2]
   simp only[ayb,aye,this];grind
  .simp only[ayb,aye,ih];grind
theorem Rj(z:Ed):∀m:List Ed,(m.map edK).Nodup->((C0 z m).map edK).Nodup
 |[],_=>by simp[C0]
 |e::r,h=>by
  rw[ayb,azA]at h;simp only[C0];split
  .rename_i hz;have:edK z=edK e:=by simp[edK,hz.1,hz.2]
   rw[ayb,azA,this];exact h
  next hz=>rw[ayb,azA,Uk];refine⟨λhk=>hk.elim (λe'=>hz ?_) h.1,Rj z r h.2⟩;simp only[edK,aq4]at e';exact⟨e'.1.symm,e'.2.symm⟩
def abD(fr:Bool)(l:List Fp):((oR fr l).map edK).Nodup:=by
 rw[<-az8 l];induction l.reverse with
 |nil=>simp[oR]
 |cons p r ih=>grind [List.reverse_cons,MY,YV,Rj]
def aiZ{n:Nat}(hn:n<=64)(fr:Bool)(l:List Fp)(h:∀p∈l,p.a<n/\p.b<n):(oR fr l).length<=4096:=by
 have h1:=afO ((oR fr l).map edK) ((I n).flatMap λi=>(I n).map λk=>(i,k)) (abD fr l) λx hx=>by obtain⟨e,he,rfl⟩:=ayl.1 hx;obtain⟨p,hp,rfl⟩:=xq ((Wg fr l).1 e he);exact ayG.2 ⟨p.a,ayB.2 (h p hp).1,ayl.2 ⟨p.b,ayB.2 (h p hp).2,rfl⟩⟩
 have h2:((I n).flatMap λi=>(I n).map λk=>(i,k)).length=n*n:=by
  have hs:∀m:List Nat,(m.map λ_=>n).sum=m.length*n:=λm=>by
   induction m with
   |nil=>simp
   |cons a m ih=>grind
  simp_all
 have h3:n*n<=64*64:=azM hn hn;grind
def adM(l:List Fp)(n B:Nat)(hn:n<=64)(hl:l.length<=8192)(hB:B<=1073741824)(h:∀p∈l,p.a<n/\p.b<n/\p.c<=B)(fr:Bool):∃D:Nat->Nat->Int,(∀s v,s<n->v<n->IsD (counted fr l) (B*n) s v (D s v))/\gE [.rs 4 (l.map Fp.pv),.int .i64 n,.bool fr]=U (.rs 1 (ee n D)):=by
 have⟨b1,b2,b3⟩:=Wg fr l;have hbe:∀y∈oR fr l,y.f<n/\y.t<n/\y.c<=B:=λy hy=>by obtain⟨p,hp,rfl⟩:=xq (b1 y hy);exact h p hp
 have b4:=aiZ hn fr l λp hp=>⟨(h p hp).1,(h p hp).2.1⟩;have⟨D,d1,d2⟩:=aiW (oR fr l) n B hn aa hB hbe;refine⟨D,λs v hs hv=>aiY (d1 s v hs hv),?_⟩;have e0:aJ 4 (.rs 4 (l.map Fp.pv))=U (l.map Fp.pv):=bm
 simp only[gE,rI,e0,ab,MO,asBool];refine aM (λk=>((n:Int),fr,l.map Fp.pv,((l.map Fp.pv).length:Int),(k:Int),(oR fr (l.take k)).map tW,())) l.length (λk hk rec=>?_) (λrec=>?_) fb bm
 .unfold mU;dsimp only;have hg:O ((k:Int)<((l.map Fp.pv).length:Int))=true:=ah
  obtain⟨p,hp⟩:∃p,l[k]?=U p:=⟨_,ta hk⟩;have L4:(l.map Fp.pv)[k]?=U p.pv:=av
  have htk:l.take (k+1)=l.take k++[p]:=by rw[aAj,hp];rfl
  have hr7:(bif fr then(asBool (cell p.pv 3)).bind λb6=>U !b6 else U J)=U (fr&& !p.free):=by rw[fp3];cases fr<;>rfl
  have⟨g1,g2⟩:=am7 p.a p.b (oR fr (l.take k));rw[BY hg,af,L4,ab,hr7,ab,ag aa,htk,MY];unfold YV;by_cases hf:(fr&& !p.free)=Y
  .simp_all
  .rw[IT hf,IT hf];simp only[fp0,fp1,fp2,MO,ab,g1,g2];cases hb:Lv p.a p.b (oR fr (l.take k))with
   |none=>simp only[azp,ayi,cond_true,ab,By];rw[show(p.c:Int)=((p.ed.c:Nat):Int)from rfl,show(p.a:Int)=((p.ed.f:Nat):Int)from rfl,show(p.b:Int)=((p.ed.t:Nat):Int)from rfl,aoC]
   |some x=>
    simp only[aAh,aq3,cond_false,ab,ayy];by_cases hx:p.c<x
    .have hd:O ((p.c:Int)<(x:Int))=true:=ah
     simp only[hd,By,BY hx];rw[show(p.c:Int)=((p.ed.c:Nat):Int)from rfl,show(p.a:Int)=((p.ed.f:Nat):Int)from rfl,show(p.b:Int)=((p.ed.t:Nat):Int)from rfl,aoC]
    grind
 .unfold mU;dsimp only;have Sw:((oR fr (l.take l.length)).map tW).length<=maxLen:=by grind [List.take_length,List.length_map,maxLen,decide]
  have bG:(0:Int)<=0/\0<=((((oR fr (l.take l.length)).map tW).length:Nat):Int)/\((((oR fr (l.take l.length)).map tW).length:Nat):Int).toNat*24<=au/\0<24/\0<3:=by grind [Int.toNat_natCast,List.take_length,List.length_map,au]
  rw[IT ae,BY Sw,BY bG,ays,kC];have hp:=afN hn (.rs 1 (ee n D)) (λacc=>(∀y,y∈oR fr l↔y∈acc)/\acc.length<=4096) (λacc⟨h1,h2⟩=>⟨_,aiX (oR fr l) acc n B hn h2 hB hbe h1 d1,rfl⟩) (oR fr l) [] rounds fb ah (λl' h1 h2=>⟨λy=>by rw[h1];simp,by rw[h2];simp;omega⟩);exact hp
abbrev Mx:=Nat->Nat->Nat
def MN(d:Mx)(i j x:Nat):Mx:=λa b=>if a=i/\b=j then x else d a b
def dj(k i:Nat)(d:Mx):Nat->Mx
 |0=>d
 |j+1=>MN (dj k i d j) i j (min (dj k i d j i j) (dj k i d j i k+dj k i d j k j))
def di(n k:Nat)(d:Mx):Nat->Mx
 |0=>d
 |i+1=>dj k i (di n k d i) n
def dk(n:Nat)(d:Mx):Nat->Mx
 |0=>d
 |k+1=>di n k (dk n d k) n
structure L7(w:Nat->Nat->Nat->Prop)(inf n k i j:Nat)(d:Mx):Prop where
 fw:Fw w inf n d
 ow:∀a b,a<n->b<n->AR w k a b (d a b)
 new:∀a b,a<n->b<n->(a<i\/(a=i/\b<j))->AR w (k+1) a b (d a b)
variable {w:Nat->Nat->Nat->Prop} {inf n:Nat}
def AR.le{k i j x y:Nat}(h:AR w k i j x)(hy:y<=x):AR w k i j y:=λL hL=>ayn hy (h L hL)
theorem L7.cell{k i j:Nat}{d:Mx}(h:L7 w inf n k i j d)(hi:i<n)(hj:j<n)(hk:k<n):L7 w inf n k i (j+1) (MN d i j (min (d i j) (d i k+d k j))):=by
 obtain⟨h1,h2,h3⟩:=alD h.fw hi hj hk (x:=min (d i j) (d i k+d k j)) rfl (d':=MN d i j (min (d i j) (d i k+d k j))) (λa b=>rfl);refine⟨h1,λa b ha hb=>(h.ow a b ha hb).le (h2 a b),λa b ha hb hd=>?_⟩;by_cases e:a=i/\b=j
 .obtain⟨rfl,rfl⟩:=e;exact h3 (h.ow _ _ ha hk) (h.ow _ _ hk hb) (h.ow _ _ ha hb)
 .exact(h.new a b ha hb aa).le (h2 a b)
def L7.row{k i:Nat}{d:Mx}(h:L7 w inf n k i 0 d)(hi:i<n)(hk:k<n):∀j,j<=n->L7 w inf n k i j (dj k i d j)
 |0,_=>h
 |j+1,hj=>(L7.row h hi hk j aa).cell hi aa hk
def L7.rows{k:Nat}{d:Mx}(h:L7 w inf n k 0 0 d)(hk:k<n):∀i,i<=n->L7 w inf n k i 0 (di n k d i)
 |0,_=>h
 |i+1,hi=>by have:=(L7.rows h hk i aa).row aa hk n (ayd _);exact⟨this.fw,this.ow,λa b ha hb hd=>this.new a b ha hb aa⟩
structure ai0(w:Nat->Nat->Nat->Prop)(inf n k:Nat)(d:Mx):Prop where
 fw:Fw w inf n d
 low:∀a b,a<n->b<n->AR w k a b (d a b)
theorem ai0.rounds{d:Mx}(h:ai0 w inf n 0 d):∀k,k<=n->ai0 w inf n k (dk n d k)
 |0,_=>h
 |k+1,hk=>by have ih:=ai0.rounds h k aa;have:=L7.rows (k:=k) ⟨ih.fw,ih.low,λa b ha hb hd=>aa⟩ aa n (ayd _);exact⟨this.fw,λa b ha hb=>this.new a b ha hb (.inl ha)⟩
def adN(inf:Nat):Mx:=λ_ _=>inf
def lay(d:Mx)(e:Ed):Mx:=MN d e.f e.t (min (d e.f e.t) e.c)
def start(inf:Nat)(E:List Ed):Mx:=E.foldl lay (adN inf)
def J0(inf:Nat)(E:List Ed)(e:Ed):start inf (E++[e])=lay (start inf E) e:=by simp[start]
def ai1(E:List Ed):(∀i j,start inf E i j<=inf)/\(∀i j,start inf E i j<inf->(⟨i,j,start inf E i j⟩:Ed)∈E)/\∀e∈E,start inf E e.f e.t<=e.c:=by
 rw[<-az8 E];induction E.reverse with
 |nil=>simp[ayd,start,adN]
 |cons e l ih=>
  rw[List.reverse_cons,J0];obtain⟨i1,i2,i3⟩:=ih;have hl:∀a b,lay (start inf l.reverse) e a b=if a=e.f/\b=e.t then min (start inf l.reverse e.f e.t) e.c else start inf l.reverse a b:=λa b=>rfl;refine⟨λa b=>?_,λa b h=>?_,λz hz=>?_⟩
  .grind
  .rw[hl]at h⊢;split
   .rename_i hk;rw[BY hk]at h;by_cases hm:start inf l.reverse e.f e.t<=e.c
    .simp_all
    .rw[show min (start inf l.reverse e.f e.t) e.c=e.c by omega,hk.1,hk.2];simp
   simp_all
  grind
def E4(E:List Ed):ai0 (ew E) inf n 0 (start inf E):=by obtain⟨h1,h2,h3⟩:=ai1 (inf:=inf) E;exact⟨⟨λi j _ _=>h1 i j,λi j _ _ h=>.GL (h2 i j h)⟩,λa b _ _ L hL=>h3 ⟨a,b,L⟩ hL⟩
def alI{E:List Ed}{M:Nat}(hE:∀y∈E,y.f<n/\y.t<n)(hM:M<inf){i j:Nat}(hi:i<n)(hj:j<n)(hij:i≠j){D:Int}(hD:IsD E M i j D):(D= -1/\dk n (start inf E) n i j=inf)\/(D=(dk n (start inf E) n i j:Int)/\dk n (start inf E) n i j<=M):=by
 have hd:=(E4 (n:=n) (inf:=inf) E).rounds n (ayd _);have rch:∀L,Wb E i j L↔lj (ew E) i j L:=λL=>⟨λh=>by rcases h with⟨h,_⟩|h;exact absurd h.symm hij;omega,.inr⟩;have hs:=alE (w:=ew E) (λa b c h=>(hE _ h).1) hd.fw hi hj (hd.low i j hi hj) (λL akQ hw=>by
  rcases hD with⟨_,h⟩|⟨L',_,hle,h1,h2⟩
  .simp_all
  grind)
 rcases hD with⟨e,h⟩|⟨L',e,hle,h1,h2⟩
 .left;refine⟨e,?_⟩;have axZ:=hd.fw.top i j hi hj;by_cases bX:dk n (start inf E) n i j<inf
  .exact absurd ((rch _).2 (hd.fw.real i j hi hj bX)) (h _)
  omega
 .right;have:(if dk n (start inf E) n i j<inf then U (dk n (start inf E) n i j)else Z)=U L':=hs.unique ⟨(rch L').1 h1,λL'' hw=>h2 L'' ((rch L'').2 hw)⟩;simp_all
def Gb(n:Nat)(r:Nat->Nat):List PV:=(I n).map λj=>.int .i64 (r j)
def lK(n:Nat)(d:Mx):List PV:=(I n).map λi=>.lJ 1 (Gb n (d i))
def D8(n:Nat)(d:Mx):(lK n d).length=n:=by simp[lK]
def AV(n:Nat)(r:Nat->Nat):(Gb n r).length=n:=by simp[Gb]
def tD{n i:Nat}(d:Mx)(h:i<n):(lK n d)[i]?=U (.lJ 1 (Gb n (d i))):=by simp[lK,h]
def xp{n j:Nat}(r:Nat->Nat)(h:j<n):(Gb n r)[j]?=U (.int .i64 (r j)):=by simp[Gb,h]
def Li{n i j:Nat}(d:Mx)(x:Nat)(hi:i<n)(hj:j<n):(lK n d).set i (.lJ 1 ((Gb n (d i)).set j (.int .i64 x)))=lK n (MN d i j x):=by
 apply ayI;intro a;rw[ayO];by_cases e:i=a
 .subst e;rw[BY rfl,BY (by rw[D8];omega),tD _ hi];congr 2;apply ayI;intro b;rw[ayO];by_cases e:j=b
  .subst e;rw[BY rfl,BY (by rw[AV];omega),xp _ hj];simp[MN]
  .rw[IT e];by_cases hb:b<n
   .simp_all[xp,MN,Ne.symm]
   simp_all[ay0,AV]
 .rw[IT e];by_cases ha:a<n
  .rw[tD _ ha,tD _ ha];simp_all[congr,Gb,ayE,MN,Ne.symm]
  simp_all[ay0,D8]
def asR(es:List PV):fZ 1 (cell (.lJ 1 es) 0)=U es:=rfl
def cI(x:Int):cell (.int .i64 x) 0=.int .i64 x:=rfl
def alv(e p:PV):setRow 1 e 0 p=p:=rfl
def alw(q p:PV):setCells 1 q 0 1 p=p:=rfl
def alJ(a b:Nat)(hb:b<=4398046511104):(if C .i64 (b:Int)<(a:Int)then C .i64 (b:Int)else(a:Int))=((min a b:Nat):Int):=sH
def aoE(DY:Int×Int×Int×List PV×Unit->Option PV)(n k i:Nat)(d:Mx)(hn:n<=64)(hk:k<n)(hi:i<n)(hd:∀j,j<=n->∀a b,a<n->b<n->dj k i d j a b<=1099511627776):cD.run (np DY) ((n:Int),(k:Int),(i:Int),0,lK n d,())=DY ((n:Int),(k:Int),C .i64 ((i:Int)+1),lK n (dj k i d n),()):=by
 refine aM (λj=>((n:Int),(k:Int),(i:Int),(j:Int),lK n (dj k i d j),())) n (λj hj rec=>?_) (λrec=>?_) fb rfl
 .unfold np;dsimp only;have hg:O ((j:Int)<(n:Int))=true:=ah
  have ii:aU (i:Int) (lK n (dj k i d j)).length:=JZ (by rw[D8];omega);have ik:aU (k:Int) (lK n (dj k i d j)).length:=JZ (by rw[D8];omega);have ji:aU (j:Int) (Gb n (dj k i d j i)).length:=JZ (by rw[AV];omega);have ki:aU (k:Int) (Gb n (dj k i d j i)).length:=JZ (by rw[AV];omega);have jk:aU (j:Int) (Gb n (dj k i d j k)).length:=JZ (by rw[AV];omega);have b1:=hd j aa i k hi hk;have b2:=hd j aa k j hk hj;have hs:(((dj k i d j i k:Nat):Int)+((dj k i d j k j:Nat):Int))=((dj k i d j i k+dj k i d j k j:Nat):Int):=aa
  simp only[hg,By,BY ii,BY ik,anj,tD _ hi,tD _ hk,ab,asR,BY ji,BY ki,BY jk,xp _ hj,xp _ hk,cI,MO,alv,alw,hs,alJ _ _ (aa:dj k i d j i k+dj k i d j k j<=4398046511104),Li _ _ hi hj,ag (aa:j<9223372036854775807)];rfl
 simp[np,IT]
def aoF(QY:Int×Int×List PV×Unit->Option PV)(n k:Nat)(d:Mx)(hn:n<=64)(hk:k<n)(hd:∀i,i<n->∀j,j<=n->∀a b,a<n->b<n->dj k i (di n k d i) j a b<=1099511627776):cD.run (nq cD QY) ((n:Int),(k:Int),0,lK n d,())=QY ((n:Int),C .i64 ((k:Int)+1),lK n (di n k d n),()):=by
 refine aM (λi=>((n:Int),(k:Int),(i:Int),lK n (di n k d i),())) n (λi hi rec=>?_) (λrec=>?_) fb rfl
 .unfold nq;dsimp only;have hg:O ((i:Int)<(n:Int))=true:=ah
  rw[BY hg,aoE rec n k i _ hn hk hi (hd i hi),ag aa];rfl
 simp[nq,IT]
def aoG(n:Nat)(d:Mx)(hn:n<=64)(hd:∀k,k<n->∀i,i<n->∀j,j<=n->∀a b,a<n->b<n->dj k i (di n k (dk n d k) i) j a b<=1099511627776):cD.run (nr cD) ((n:Int),0,lK n d,())=U (.rs 1 ((lK n (dk n d n)).map PV.strip)):=by
 refine aM (λk=>((n:Int),(k:Int),lK n (dk n d k),())) n (λk hk rec=>?_) (λrec=>?_) fb rfl
 .unfold nr;dsimp only;have hg:O ((k:Int)<(n:Int))=true:=ah
  rw[BY hg,aoF rec n k _ hn hk (hd k hk),ag aa];rfl
 simp[nr,IT]
abbrev rA:Nat:=1099511627776
def T8(n:Nat):List.replicate n (PV.lJ 1 (List.replicate n (PV.int .i64 1099511627776)))=lK n (adN rA):=by
 unfold lK Gb adN;apply ayI;intro i;by_cases hi:i<n
 .have:(I n).map (λj=>PV.int .i64 ((rA:Nat):Int))=List.replicate n (PV.int .i64 1099511627776):=acI
  simp_all
 simp_all
def T9(n:Nat)(d:Mx):(lK n d).map PV.strip=ee n λi j=>((d i j:Nat):Int):=by unfold lK ee Gb FX;rw[azI];rfl
def ai2(a b:Nat):(if(b:Int)<(a:Int)then(b:Int)else(a:Int))=((min a b:Nat):Int):=aa
def Lj(fr:Bool)(l:List Fp)(p:Fp):counted fr (l++[p])=if(fr&& !p.free)=Y then counted fr l else counted fr l++[p.ed]:=by unfold counted;grind
def Lw(l:List Fp)(n:Nat)(hn:n<=64)(hl:l.length<=8192)(h:∀p∈l,p.a<n/\p.b<n)(fr:Bool):lB [.rs 4 (l.map Fp.pv),.int .i64 n,.bool fr]=U (.rs 1 (ee n λi j=>((dk n (start rA (counted fr l)) n i j:Nat):Int))):=by
 have e0:aJ 4 (.rs 4 (l.map Fp.pv))=U (l.map Fp.pv):=bm
 have hE:∀y∈counted fr l,y.f<n/\y.t<n:=λy hy=>by obtain⟨p,hp,rfl⟩:=xq hy;exact h p hp
 simp only[lB,AW,e0,ab,MO,asBool];refine aM (λi=>(l.map Fp.pv,(n:Int),fr,(i:Int),List.replicate i (PV.lJ 1 (List.replicate n (PV.int .i64 1099511627776))),())) n (λi hi rec=>?_) (λrec=>?_) fb rfl
 .unfold tX;dsimp only;have hg:O ((i:Int)<(n:Int))=true:=ah
  rw[BY hg];refine aM (λj=>(l.map Fp.pv,(n:Int),fr,(i:Int),(j:Int),List.replicate i (PV.lJ 1 (List.replicate n (PV.int .i64 1099511627776))),List.replicate j (PV.int .i64 1099511627776),())) n (λj hj iO=>?_) (λiO=>?_) fb rfl
  .unfold tY;dsimp only;have hg:O ((j:Int)<(n:Int))=true:=ah
   have JI:List.replicate j (PV.int .i64 1099511627776)++[PV.int .i64 1099511627776]=List.replicate (j+1) (PV.int .i64 1099511627776):=(azP ..).symm;rw[BY hg];simp only[JI,ayD];rw[BY NF,ag aa]
  .unfold tY;dsimp only;have JI:List.replicate i (PV.lJ 1 (List.replicate n (PV.int .i64 1099511627776)))++[PV.lJ 1 (List.replicate n (PV.int .i64 1099511627776))]=List.replicate (i+1) (PV.lJ 1 (List.replicate n (PV.int .i64 1099511627776))):=(azP ..).symm;rw[IT ae];simp only[JI,ayD];rw[BY NF,ag aa]
 .unfold tX;dsimp only;rw[IT ae,T8];refine aM (λk=>(l.map Fp.pv,(n:Int),fr,(k:Int),lK n (start rA (counted fr (l.take k))),())) l.length (λk hk iO=>?_) (λiO=>?_) fb rfl
  .unfold tZ;dsimp only;have hg:O ((k:Int)<((l.map Fp.pv).length:Int))=true:=ah
   obtain⟨p,hp⟩:∃p,l[k]?=U p:=⟨_,ta hk⟩;have L4:(l.map Fp.pv)[k]?=U p.pv:=av
   have htk:l.take (k+1)=l.take k++[p]:=by rw[aAj,hp];rfl
   have⟨pa,pb⟩:=h p (awU hp);have hr:(bif p.free then U Y else U !fr)=U (!(fr&& !p.free)):=ao
   rw[BY hg,af,L4,ab,htk,Lj];simp only[fp3,asBool,ab,hr];cases hb:(fr&& !p.free)with
   |true=>simp only[aq3,AI,OF,By,ag (aa:k<9223372036854775807)]
   |false=>
    obtain⟨d,hd⟩:∃d,d=start rA (counted fr (l.take k)):=⟨_,rfl⟩;have ia:aU (p.a:Int) (lK n d).length:=JZ (by rw[D8];omega);have ib:aU (p.b:Int) (Gb n (d p.a)).length:=JZ (by rw[AV];omega);have fL:lK n (start rA (counted fr (l.take k)++[p.ed]))=lK n (MN d p.a p.b (min (d p.a p.b) p.c)):=by rw[J0,<-hd];rfl
    simp only[ayi,By,AI,OF,fL,<-hd,fp0,fp1,fp2,MO,ab,BY ia,anj,tD _ pa,asR,BY ib,xp _ pb,cI,alv,alw,ai2,Li _ _ pa pb,ag (aa:k<9223372036854775807)]
  .unfold tZ;dsimp only;rw[IT ae,ays,<-T9];have aiC:=E4 (n:=n) (inf:=rA) (counted fr l);exact aoG n _ hn λk hk i hi j hj a b ha hb=>by have ih:=aiC.rounds k aa;have:=(L7.rows (k:=k) ⟨ih.fw,ih.low,λa b ha hb hd=>aa⟩ hk i aa).row hi hk j hj;exact this.fw.top a b ha hb
def fpI(i k:Nat)(s:Int)(b:Bool):PV:=.agg [.int .i64 i,.int .i64 k,.int .i64 s,.bool b]
def DZ(w f:Int)(i k:Nat):List PV:=if i=k\/w>14400 then[]else fpI i k w (f==w)::(if f>w/\f<=14400 then[fpI i k f Y]else[])
def CN(n:Nat)(it:Nat->Nat->List PV)(i:Nat):List PV:=(I n).flatMap (it i)
def Gc(n:Nat)(it:Nat->Nat->List PV)(m:Nat):List PV:=(I m).flatMap (CN n it)
def IF(n:Nat)(it:Nat->Nat->List PV)(i:Nat):CN (n+1) it i=CN n it i++it i n:=by simp[CN,ayP,az0]
def IH(n:Nat)(it:Nat->Nat->List PV)(m:Nat):Gc n it (m+1)=Gc n it m++CN n it m:=by simp[Gc,ayP,az0]
def G5{it:Nat->Nat->List PV}(h:∀i k,(it i k).length<=2)(i:Nat):∀k,(CN k it i).length<=2*k
 |0=>by simp[CN]
 |k+1=>by rw[IF,ax9];have:=G5 h i k;have:=h i k;omega
def G6{it:Nat->Nat->List PV}(h:∀i k,(it i k).length<=2)(n:Nat):∀m,(Gc n it m).length<=2*n*m
 |0=>by simp[Gc]
 |m+1=>by rw[IH,ax9,Nat.mul_succ];have:=G6 h n m;have:=G5 h m n;omega
def Ll(w f:Int)(i k:Nat):(DZ w f i k).length<=2:=by grind [DZ]
def MP{n k:Nat}(D:Nat->Int)(h:k<n):(FX n D)[k]?=U (.int .i64 (D k)):=by simp[FX,h]
def IG{n i:Nat}(D:Nat->Nat->Int)(h:i<n):(ee n D)[i]?=U (.rs 1 (FX n (D i))):=by simp[ee,h]
def aly(es:List PV):aJ 1 (cell (.rs 1 es) 0)=U es:=bm
def yW{a:List PV}(h:a.length<=16384):a.length*32<=au/\0<32:=NF
def abE(Lk:abn->Option PV)(n i:Nat)(W F:Nat->Nat->Int)(hn:n<=64)(hi:i<n)(acc:List PV)(asp:acc.length<=8192):cD.run (qH cD Lk) ((n:Int),ee n W,ee n F,(i:Int),0,acc,())=Lk ((n:Int),ee n W,ee n F,C .i64 ((i:Int)+1),acc++CN n (λi k=>DZ (W i k) (F i k) i k) i,()):=by
 refine aM (λk=>((n:Int),ee n W,ee n F,(i:Int),(k:Int),acc++CN k (λi k=>DZ (W i k) (F i k) i k) i,())) n (λk hk rec=>?_) (λrec=>?_) fb (by simp[CN])
 .unfold qH;dsimp only;have hg:O ((k:Int)<(n:Int))=true:=ah
  rw[IF];have hlen:=G5 (it:=λi k=>DZ (W i k) (F i k) i k) (λi k=>Ll _ _ i k) i k;generalize hA:acc++CN k (λi k=>DZ (W i k) (F i k) i k) i=A;have hAl:A.length<=8192+128:=ao
  rw[<-ayt,hA];simp only[hg,By,af,IG _ hi,ab,aly,MP _ hk,cI,MO,ag (aa:k<9223372036854775807)];generalize W i k=w;generalize F i k=f;by_cases Se:i=k
  .simp_all[DZ,BY,cond_true,ab,By,ayF]
  .have hb:((i:Int)==(k:Int))=false:=ao
   simp only[hb,cond_false,ab];by_cases hw:w>14400
   .simp_all[DZ,BY,ayk,By,ayF]
   .have hr1:(A++[PV.agg [.int .i64 i,.int .i64 k,.int .i64 w,.bool (f==w)]]).length*32<=au/\0<32:=yW ah;simp only[hw,ayf,AI,OF,BY hr1];by_cases hf:f>w
    .by_cases Z5:f<=14400
     .have Tv:(A++[PV.agg [.int .i64 i,.int .i64 k,.int .i64 w,.bool (f==w)]]++[PV.agg [.int .i64 i,.int .i64 k,.int .i64 f,.bool Y]]).length*32<=au/\0<32:=yW ah;have hit:DZ w f i k=[fpI i k w (f==w),fpI i k f Y]:=by simp_all[DZ,IT,BY]
      simp only[hf,Z5,ayk,cond_true,ab,By,BY Tv,hit];rw[ayt];rfl
     .have hit:DZ w f i k=[fpI i k w (f==w)]:=by simp_all[DZ,IT]
      simp only[hf,Z5,ayk,ayf,cond_true,ab,AI,OF,hit];rfl
    .have hit:DZ w f i k=[fpI i k w (f==w)]:=by unfold DZ;grind
     simp only[hf,ayf,cond_false,ab,AI,OF,hit];rfl
 simp[qH,IT]
def YW(n:Nat)(W F:Nat->Nat->Int)(hn:n<=64):cD.run (qI cD) ((n:Int),ee n W,ee n F,0,[],())=U (.rs 4 (Gc n (λi k=>DZ (W i k) (F i k) i k) n)):=by
 refine aM (λi=>((n:Int),ee n W,ee n F,(i:Int),Gc n (λi k=>DZ (W i k) (F i k) i k) i,())) n (λi hi rec=>?_) (λrec=>?_) fb rfl
 .unfold qI;dsimp only;have hg:O ((i:Int)<(n:Int))=true:=ah
  have hlen:=G6 (it:=λi k=>DZ (W i k) (F i k) i k) (λi k=>Ll _ _ i k) n i;have hb:2*n*i<=2*64*64:=azM aa aa;rw[BY hg,abE rec n i W F hn hi _ aa,IH,ag aa]
 simp[qI,IT]
def gA(n:Nat)(l:List Fp)(fr:Bool)(i j:Nat):Int:=((dk n (start rA (counted fr l)) n i j:Nat):Int)
def abF(l:List Fp)(n:Nat)(hn:n<=64)(hl:l.length<=8192)(h:∀p∈l,p.a<n/\p.b<n):lu [.rs 4 (l.map Fp.pv),.int .i64 n]=U (.rs 4 (Gc n (λi k=>DZ (gA n l J i k) (gA n l Y i k) i k) n)):=by
 have e0:aJ 4 (.rs 4 (l.map Fp.pv))=U (l.map Fp.pv):=bm
 have e1:∀es,aJ 1 (.rs 1 es)=U es:=λes=>bm
 simp only[lu,Fe,e0,ab,MO,Lw l n hn hl h J,Lw l n hn hl h Y,e1];simp_all[YW,gA]
def Z9(w f:Int)(i k:Nat):List PV:=if i=k then[]else(if 0<w/\w<=14400 then[fpI i k w (f==w)]else[])++(if f≠w/\0<f/\f<=14400 then[fpI i k f Y]else[])
def lj.pos{w:Nat->Nat->Nat->Prop}(h:∀i j c,w i j c->1<=c){i j L:Nat}(hw:lj w i j L):1<=L:=by
 cases hw with
 |GL e=>exact h _ _ _ e
 |snoc _ e=>have:=h _ _ _ e;omega
def BJ(M:Nat)(d w:Int):Prop:=(d= -1/\w=(rA:Int))\/(d=w/\1<=w/\w<=M)
theorem asC{M:Nat}(hM:M<rA){d0 d1 w f:Int}(h0:BJ M d0 w)(h1:BJ M d1 f)(h10:d1≠-1->d0≠-1/\d0<=d1)(i k:Nat):Z9 d0 d1 i k=DZ w f i k:=by
 unfold Z9 DZ;by_cases Se:i=k
 .simp_all
 .rw[IT Se];have hM:(M:Int)<1099511627776:=ao
  have asm:((rA:Nat):Int)=1099511627776:=rfl;rw[BJ,asm]at h0 h1;rcases h0 with⟨e0,w0⟩|⟨e0,w1,w2⟩
  .simp_all
  .subst e0;rcases h1 with⟨e1,f0⟩|⟨e1,f1,f2⟩
   .by_cases hw:d0<=14400
    .have b1:(d1==d0)=false:=ao
     have b2:(f==d0)=false:=ao
     grind
    simp_all
   grind
theorem alK{l:List Fp}{n B:Nat}(hn:n<=64)(hB:B<=1073741824)(h:∀p∈l,p.a<n/\p.b<n/\1<=p.c/\p.c<=B)(fr:Bool){i k:Nat}(hi:i<n)(hk:k<n)(Se:i≠k){d:Int}(hd:IsD (counted fr l) (B*n) i k d):BJ (B*n) d (gA n l fr i k):=by
 have hE:∀y∈counted fr l,y.f<n/\y.t<n/\1<=y.c:=λy hy=>by obtain⟨p,hp,rfl⟩:=xq hy;have⟨a,b,c,_⟩:=h p hp;exact⟨a,b,c⟩
 have hM:B*n<rA:=by have:B*n<=1073741824*64:=azM hB hn;grind
 rcases alI (inf:=rA) (λy hy=>⟨(hE y hy).1,(hE y hy).2.1⟩) hM hi hk Se hd with⟨e1,e2⟩|⟨e1,e2⟩
 .exact .inl ⟨e1,by unfold gA;omega⟩
 .refine .inr ⟨e1,?_,by unfold gA;omega⟩;rcases hd with⟨e,_⟩|⟨L,e,_,hr,_⟩
  .omega
  .have:1<=L:=by
    rcases hr with⟨h,_⟩|hw
    .omega
    .exact hw.pos λa b c hc=>(hE _ hc).2.2
   unfold gA;omega
theorem alL{l:List Fp}{M i k:Nat}{d0 d1:Int}(h0:IsD (counted J l) M i k d0)(h1:IsD (counted Y l) M i k d1)(cO:d1≠-1):d0≠-1/\d0<=d1:=by
 have sub:∀y,y∈counted Y l->y∈counted J l:=λy hy=>by unfold counted at hy⊢;grind
 rcases h1 with⟨e,_⟩|⟨L1,e1,_,r1,_⟩
 .omega
 .have r:=r1.mem sub;rcases h0 with⟨_,h⟩|⟨L0,e0,_,_,m0⟩
  .exact absurd r (h L1)
  simp_all
def adO(w f:Int)(i k:Nat):(Z9 w f i k).length<=2:=by grind [Z9,List.length_append]
def afP(Lk:TY8->Option PV)(n i:Nat)(W F:Nat->Nat->Int)(hn:n<=64)(hi:i<n)(acc:List PV)(asp:acc.length<=8192):cD.run (kJ cD Lk) (ee n W,ee n F,(i:Int),(n:Int),(i:Int),FX n (W i),(n:Int),0,acc,())=Lk (ee n W,ee n F,(n:Int),C .i64 ((i:Int)+1),acc++CN n (λi k=>Z9 (W i k) (F i k) i k) i,()):=by
 refine aM (λk=>(ee n W,ee n F,(i:Int),(n:Int),(i:Int),FX n (W i),(n:Int),(k:Int),acc++CN k (λi k=>Z9 (W i k) (F i k) i k) i,())) n (λk hk rec=>?_) (λrec=>?_) fb (by simp[CN])
 .unfold kJ;dsimp only;have hg:O ((k:Int)<(n:Int))=true:=ah
  rw[IF];have hlen:=G5 (it:=λi k=>Z9 (W i k) (F i k) i k) (λi k=>adO _ _ i k) i k;generalize hA:acc++CN k (λi k=>Z9 (W i k) (F i k) i k) i=A;have hAl:A.length<=8192+128:=ao
  rw[<-ayt,hA];simp only[hg,By,af,MP _ hk,IG _ hi,ab,aly,cI,MO,ag (aa:k<9223372036854775807)];generalize W i k=w;generalize F i k=f;by_cases Se:i=k
  .simp_all[Z9,BY,By,ayF]
  .have hb:((i:Int)==(k:Int))=false:=ao
   have hand:∀x:Int,(bif O (x>0)then U (O (x<=14400))else U J)=U (O (0<x/\x<=14400)):=λx=>ao
   have hr1:(A++[PV.agg [.int .i64 i,.int .i64 k,.int .i64 w,.bool (f==w)]]).length*32<=au/\0<32:=yW ah;have Tv:(A++[PV.agg [.int .i64 i,.int .i64 k,.int .i64 w,.bool (f==w)]]++[PV.agg [.int .i64 i,.int .i64 k,.int .i64 f,.bool Y]]).length*32<=au/\0<32:=yW ah;have hr3:(A++[PV.agg [.int .i64 i,.int .i64 k,.int .i64 f,.bool Y]]).length*32<=au/\0<32:=yW ah;have cO:(f !=w)=O (f≠w):=ao
   have hit:Z9 w f i k=(if 0<w/\w<=14400 then[fpI i k w (f==w)]else[])++(if f≠w/\0<f/\f<=14400 then[fpI i k f Y]else[]):=IT Se;simp only[hb,AI,OF,hand,ab,cO,tb,hit,BY hr1,BY Tv,BY hr3];by_cases h1:0<w/\w<=14400
   .by_cases h2:f≠w
    .by_cases h3:0<f/\f<=14400
     .rw[BY h1,BY h2,BY h3,BY h1,BY ⟨h2,h3⟩,ayt];rfl
     .rw[BY h1,BY h2,IT h3,BY h1,IT (λh=>h3 h.2)];rfl
    .rw[BY h1,IT h2,BY h1,IT (λh=>h2 h.1)];rfl
   .by_cases h2:f≠w
    .by_cases h3:0<f/\f<=14400
     .rw[IT h1,BY h2,BY h3,IT h1,BY ⟨h2,h3⟩];rfl
     grind
    grind
 simp[kJ,IT]
def abG(n:Nat)(W F:Nat->Nat->Int)(hn:n<=64){es':List PV}(hs:GO 4 (λc a b=>da [a,b]) (Gc n (λi k=>Z9 (W i k) (F i k) i k) n)=U es'):cD.run (kK cD) (ee n W,ee n F,(n:Int),0,[],())=U (.rs 4 es'):=by
 have hlen:∀i,i<=n->(Gc n (λi k=>Z9 (W i k) (F i k) i k) i).length<=8192:=λi hi=>by have h1:=G6 (it:=λi k=>Z9 (W i k) (F i k) i k) (λi k=>adO _ _ i k) n i;have hb:2*n*i<=2*64*64:=azM aa aa;omega
 refine aM (λi=>(ee n W,ee n F,(n:Int),(i:Int),Gc n (λi k=>Z9 (W i k) (F i k) i k) i,())) n (λi hi rec=>?_) (λrec=>?_) fb rfl
 .unfold kK;dsimp only;have hg:O ((i:Int)<(n:Int))=true:=ah
  have Vl:((FX n (W i)).length:Int)=(n:Int):=by simp[FX]
  rw[BY hg,af,IG _ hi,ab,aly,ab,Vl,afP rec n i W F hn hi _ (hlen i aa),IH,ag aa]
 .unfold kK;dsimp only;have h:=hlen n (ayd _);rw[IT ae,BY (by(first|refine⟨rfl,?_,rfl⟩|refine⟨rfl,?_⟩);unfold au;omega),hs];rfl
def kI:PV->Int
 |.int _ n=>n
 |_=>0
def c3(x y:Int):Int:=if x<y then-1 else if x>y then 1 else 0
def or3(a b c:Int):Int:=if a≠0 then a else if b≠0 then b else c
def cfp(a b:List PV):Int:=or3 (c3 (kI (a.getD 0 .bad)) (kI (b.getD 0 .bad))) (c3 (kI (a.getD 1 .bad)) (kI (b.getD 1 .bad))) (c3 (kI (a.getD 2 .bad)) (kI (b.getD 2 .bad)))
def abH(x y:Int):gL [.int .i64 x,.int .i64 y]=U (.int .i64 (c3 x y)):=by
 have h:∀z:Int,¬(z !=z)=true:=λz=>ae
 simp only[gL,yp,MO,ab,IT (h x),IT (h y),tb];unfold c3;grind
def asD(a b c:Int):zm [.rs 1 [.int .i64 a,.int .i64 b,.int .i64 c]]=U (.int .i64 (or3 a b c)):=by
 have e0:aJ 1 (.rs 1 [.int .i64 a,.int .i64 b,.int .i64 c])=U [.int .i64 a,.int .i64 b,.int .i64 c]:=bm
 simp only[zm,J8,e0,ab];obtain⟨es,W2⟩:∃es,es=[PV.int .i64 a,.int .i64 b,.int .i64 c]:=⟨_,rfl⟩;have hl:((es.length:Nat):Int)=3:=by rw[W2];rfl
 rw[<-W2];have hb:∀(k:Nat)(x:Int),es[k]?=U (.int .i64 x)->k<3->∀rec,gm (0,es,((es.length:Nat):Int),(k:Int),()) rec=if x≠0 then U (.int .i64 x)else rec (0,es,((es.length:Nat):Int),((k+1:Nat):Int),()):=λk x hx hk rec=>by
  unfold gm;dsimp only;have hg:O ((k:Int)<((es.length:Nat):Int))=true:=by rw[hl];simp;omega
  rw[BY hg,af,hx,ab,cI,MO,ab,ag aa];simp
 have he:∀rec,gm (0,es,((es.length:Nat):Int),((3:Nat):Int),()) rec=U (.int .i64 0):=λrec=>by unfold gm;simp_all
 have hN:rounds=18446744073709551612+1+1+1+1:=rfl;rw[kC,hN];generalize 18446744073709551612=N;show gm (0,es,((es.length:Nat):Int),((0:Nat):Int),()) _=_;rw[hb 0 a (by rw[W2];rfl) aa];unfold or3;by_cases h1:a≠0
 .simp_all
 .rw[IT h1,IT h1];show gm (0,es,((es.length:Nat):Int),((1:Nat):Int),()) _=_;rw[hb 1 b (by rw[W2];rfl) aa];by_cases h2:b≠0
  .simp_all
  .rw[IT h2,IT h2];show gm (0,es,((es.length:Nat):Int),((2:Nat):Int),()) _=_;rw[hb 2 c (by rw[W2];rfl) aa];by_cases h3:c≠0
   .rw[BY h3]
   .rw[IT h3];show gm (0,es,((es.length:Nat):Int),((3:Nat):Int),()) _=_;simp_all
def VX(i k:Nat)(s:Int)(b:Bool):List PV:=[.int .i64 i,.int .i64 k,.int .i64 s,.bool b]
def ai3(i k:Nat)(s:Int)(b:Bool)(i' k':Nat)(s':Int)(b':Bool):da [IZ (VX i k s b),IZ (VX i' k' s' b')]=U (.int .i64 (cfp (VX i k s b) (VX i' k' s' b'))):=by have a:∀(w x y z:PV),asAgg 4 (.agg [w,x,y,z])=U ():=λ_ _ _ _=>rfl;have a0:∀(w x y z:PV),cell (.agg [w,x,y,z]) 0=w:=λ_ _ _ _=>rfl;have a1:∀(w x y z:PV),cell (.agg [w,x,y,z]) 1=x:=λ_ _ _ _=>rfl;have a2:∀(w x y z:PV),cell (.agg [w,x,y,z]) 2=y:=λ_ _ _ _=>rfl;have a3:∀(w x y z:PV),cell (.agg [w,x,y,z]) 3=z:=λ_ _ _ _=>rfl;simp only[da,rJ,IZ,VX,a,a0,a1,a2,a3,MO,asBool,ab,abH,asD];rfl
theorem ai4(x y:Int):(c3 x y<0↔x<y)/\(c3 x y=0↔x=y):=by grind [c3]
theorem MZ(i k:Nat)(s:Int)(b:Bool)(i' k':Nat)(s':Int)(b':Bool):cfp (VX i k s b) (VX i' k' s' b')<0↔i<i'\/(i=i'/\(k<k'\/(k=k'/\s<s'))):=by show or3 (c3 (i:Int) (i':Int)) (c3 (k:Int) (k':Int)) (c3 s s')<0↔_;have h1:=ai4 (i:Int) (i':Int);grind [ai4,or3]
def IsF(e:List PV):Prop:=∃i k s b,e=VX i k s b
variable{ns:List (List PV)}
def abI(h:ns.Pairwise λa b=>cfp a b<0):∀a∈ns,∀b∈ns,¬cfp a b<0->¬cfp b a<0->a=b:=by
 induction h with
 |nil=>simp
 | @cons x l hx _ ih=>grind
def YX(hF:∀e∈ns,IsF e)(h:ns.Pairwise λa b=>cfp a b<0):oG 4 (λc a b=>da [a,b]) ns ns cfp where
 len a ha:=by obtain⟨i,k,s,b,rfl⟩:=hF a ha;rfl
 aeD a ha p hp:=by obtain⟨i,k,s,b,rfl⟩:=hF a ha;simp only[VX,aye,aA0,or_false]at hp;rcases hp with rfl|rfl|rfl|rfl<;>rfl
 perm:=List.Perm.refl _
 reads c _ _ a ha b hb:=by obtain⟨i,k,s,q,rfl⟩:=hF a ha;obtain⟨i',k',s',q',rfl⟩:=hF b hb;exact ai3 ..
 irrefl a ha:=by obtain⟨i,k,s,q,rfl⟩:=hF a ha;rw[MZ];omega
 trans a ha b hb c hc h1 h2:=by obtain⟨i,k,s,q,rfl⟩:=hF a ha;obtain⟨i',k',s',q',rfl⟩:=hF b hb;obtain⟨i2,k2,s2,q2,rfl⟩:=hF c hc;rw[MZ]at*;omega
 total:=abI h
 sorted:=h.imp_of_mem λ{a b}ha hb xH=>by obtain⟨i,k,s,q,rfl⟩:=hF a ha;obtain⟨i',k',s',q',rfl⟩:=hF b hb;rw[MZ]at*;omega
def Yp(w f:Int)(i k:Nat):List (List PV):=if i=k\/w>14400 then[]else VX i k w (f==w)::(if f>w/\f<=14400 then[VX i k f Y]else[])
def alM(w f:Int)(i k:Nat):(Yp w f i k).map IZ=DZ w f i k:=by
 unfold Yp DZ;split
 .rfl
 .split<;>rfl
def Ga(n:Nat)(W F:Nat->Nat->Int):List (List PV):=(I n).flatMap λi=>(I n).flatMap λk=>Yp (W i k) (F i k) i k
def IC(n:Nat)(W F:Nat->Nat->Int):gx (Ga n W F)=Gc n (λi k=>DZ (W i k) (F i k) i k) n:=by unfold gx Ga Gc CN;rw[List.map_flatMap];congr 1;funext i;rw[List.map_flatMap];congr 1;funext k;exact alM ..
def ID{w f:Int}{i k:Nat}{e:List PV}(h:e∈Yp w f i k):∃s b,e=VX i k s b:=by unfold Yp at h;grind
def QQ(n:Nat)(W F:Nat->Nat->Int):∀e∈Ga n W F,IsF e:=λe h=>by have⟨i,_,h⟩:=ayG.1 h;have⟨k,_,h⟩:=ayG.1 h;obtain⟨s,b,rfl⟩:=ID h;exact⟨i,k,s,b,rfl⟩
def YY(n:Nat)(W F:Nat->Nat->Int):(Ga n W F).Pairwise λa b=>cfp a b<0:=by
 unfold Ga;rw[aze];refine⟨λi _=>?_,List.pairwise_lt_range.imp λ{i i'}hii x hx y hy=>?_⟩
 .rw[aze];refine⟨λk _=>?_,List.pairwise_lt_range.imp λ{k k'}Aa x hx y hy=>?_⟩
  .unfold Yp;split
   .simp
   grind [MZ]
  .obtain⟨s,b,rfl⟩:=ID hx;obtain⟨s',b',rfl⟩:=ID hy;rw[MZ];omega
 .obtain⟨k,_,hx⟩:=ayG.1 hx;have⟨k',_,hy⟩:=ayG.1 hy;obtain⟨s,b,rfl⟩:=ID hx;obtain⟨s',b',rfl⟩:=ID hy;rw[MZ];omega
def abp(l:List Fp)(n:Nat)(hn:n<=64)(hl:l.length<=8192)(h:∀p∈l,p.a<n/\p.b<n/\1<=p.c/\p.c<=14400):fU [.rs 4 (l.map Fp.pv),.int .i64 n]=U (.rs 4 (gx (Ga n (gA n l J) (gA n l Y))))/\lu [.rs 4 (l.map Fp.pv),.int .i64 n]=U (.rs 4 (gx (Ga n (gA n l J) (gA n l Y)))):=by
 have hr:=abF l n hn hl λp hp=>⟨(h p hp).1,(h p hp).2.1⟩;rw[<-IC]at hr;refine⟨?_,hr⟩;have hB:(14400:Nat)<=1073741824:=aa
 obtain⟨D0,d0,e0⟩:=adM l n 14400 hn hl hB (λp hp=>⟨(h p hp).1,(h p hp).2.1,(h p hp).2.2.2⟩) J;obtain⟨D1,d1,e1⟩:=adM l n 14400 hn hl hB (λp hp=>⟨(h p hp).1,(h p hp).2.1,(h p hp).2.2.2⟩) Y;have hM:14400*n<rA:=ao
 have aeR:Gc n (λi k=>Z9 (D0 i k) (D1 i k) i k) n=gx (Ga n (gA n l J) (gA n l Y)):=by
  rw[IC];unfold Gc CN;rw[azv,azv];congr 1;apply ayE;intro i hi;rw[azv,azv];congr 1;apply ayE;intro k hk;have hi:=ayB.1 hi;have hk:=ayB.1 hk;dsimp only;by_cases Se:i=k
  .simp_all[Z9,BY,DZ,gA]
  grind [asC,alK,alL]
 have a0:aJ 4 (.rs 4 (l.map Fp.pv))=U (l.map Fp.pv):=bm
 have a1:∀es,aJ 1 (.rs 1 es)=U es:=λes=>bm
 have hlen:((ee n D0).length:Int)=(n:Int):=by simp[ee]
 simp only[fU,vF,a0,MO,ab,e0,e1,a1,hlen];exact abG n D0 D1 hn (by rw[aeR];exact ae3 (YX (QQ _ _ _) (YY _ _ _)))
def abl{P:Prop}(h:P:=by rw[D8];omega):P:=h
def V0{P:Prop}(h:P:=by rw[AV];omega):P:=h
end Go.Ab.Nw
namespace Go.Ab.Tt
set_option maxRecDepth 100000
def AD(s:Bytes)(hs:s.length<=maxLen):iC [.str s]=U (.bool (dq s)):=by
 have hm:=ax;simp only[iC,G7,bU,ab];refine(QZ s hs lq (U (.bool J)) (U (.bool (O ((s.length:Int)>0)&&O ((s.length:Int)<=32)))) (λk hk rec=>?_) (λrec=>?_)).trans ?_
 .have h1:(k:Int)<(s.length:Int):=aa
  simp only[AE,tb,h1,By,D2,ta hk,ab,bh,ag (aa:k<9223372036854775807),bW];grind [lq,decide]
 .simp[AE,tb,awV,OF,bh,ab]
 .unfold dq;cases s.all lq with
  |true=>simp only[By,azw,tc,PV.bool.injEq];grind
  |false=>simp
def D3{body:Bytes×Int×Unit->(Bytes×Int×Unit->Option PV)->Option PV}(s:Bytes)(hs:s.length<=maxLen)(h:∀k,(hk:k<s.length)->∀rec,body (s,(k:Int),()) rec=if lq s[k]then rec (s,((k+1:Nat):Int),())else U (.bool J))(sx:∀rec,body (s,(s.length:Int),()) rec=U (.bool Y)){c:Bool}(hc:c= !(O (1<=s.length)&&O (s.length<=32))):(if c=Y then U (.bool J)else cD.run body (s,0,()))=U (.bool (dq s)):=by rw[QZ s hs lq _ _ h sx,hc];unfold dq;grind
def E7(s:Bytes)(hs:s.length<=maxLen):gV [.str s]=U (.bool (dq s)):=by
 have hm:=ax;simp only[gV,CP,bU,ab,aG];refine D3 s hs (λk hk rec=>?_) (λrec=>?_) ?_
 .have h1:(k:Int)<(s.length:Int):=aa
  simp only[vB,tb,h1,By,D2,ta hk,ab,bh,aG,ag (aa:k<9223372036854775807),dQ];grind [lq,ge_iff_le,decide]
 .simp[vB,tb,awV,OF]
 grind
def O6(l:List Stop)(k:Nat):Int:=match l[k]? with
 |none=>0
 |some x=>if dq x.id=J then 12 else if x.id∈(l.map Stop.id).take k then 6 else if(O (x.Gd<0)||decide (x.Gd>=16)||decide (x.change<0)||decide (x.change>3600))=Y then 2 else 0
def gk(l:List Stop):Int×Int:=if l.length>64 then(0,5)else cg (O6 l) l.length
def Ua(l:List Stop)(hl:l.length<=maxLen/\∀y∈l,y.Ok):tG [.rs 4 (l.map Stop.pv)]=U (res (gk l).1 (gk l).2):=by
 have hm:=ax;simp only[tG,J1,aJ,By,ab,te];unfold gk;by_cases kh:l.length>64
 .rw[BY ah,BY kh];rfl
 .rw[IT ah,IT kh,<-dr];refine aC (λk=>(l.map Stop.pv,(l.length:Int),(k:Int),seen PV.str ((l.map Stop.id).take k),())) l.length _ (λk hk rec=>?_) (λrec=>?_) ?_ rfl
  .have h1:(k:Int)<(l.length:Int):=aa
   have hid:=AD l[k].id (hl.2 _ (alx hk)).id;have qX:=hZ wa l[k].id ((l.map Stop.id).take k);have nh:=fT wa l[k].id ((l.map Stop.id).take k);simp only[CQ,tb,h1,By,af,AT,ta hk,IN,ab,Stop.pv,cell,PV.cells,Uz,WK,bU,asInt,asBool,hid,qX,nh,aG,ag (aa:k<9223372036854775807),my Stop.id l k hk];unfold O6;rw[ta hk];simp only;generalize (O (l[k].Gd<0)||decide (l[k].Gd>=16)||decide (l[k].change<0)||decide (l[k].change>3600))=c;cases dq l[k].id with
   |false=>rfl
   |true=>
    by_cases bt:l[k].id∈(l.map Stop.id).take k
    .simp only[bt,By,aq3,AI,ax7,OF];rfl
    .simp only[bt,By,aq3,AI,ax7,OF];cases c<;>rfl
  .simp only[CQ,tb,awV,OF];rfl
  .have:=aP;omega
def Q0(n a b:Int):cv [.int .i64 n,.int .i64 a,.int .i64 b]=U (.bool (O (n>=a)&&O (n<=b))):=by simp[cv,Q1,asInt,By,ab,bh]
def V1(x:Stop):cell x.pv 0=.str x.id:=rfl
def alz(x:Stop):cell x.pv 1=.int .i64 x.Gd:=rfl
def alA(x:Stop):cell x.pv 3=.int .i64 x.change:=rfl
def Yv{R:Type}(ids:List Bytes)(i:Nat)(hi:i<ids.length)(no fin:Option R):bN ((I i).findSome? λk=>if O (ids[k]?=U ids[i])=Y then U no else Z) fin=if ids[i]∈ids.take i then no else fin:=by
 rw[fD (λk=>O (ids[k]?=U ids[i])) (λ_=>no)];cases hf:(I i).find? λk=>O (ids[k]?=U ids[i])with
 |none=>
  have hn:ids[i]∉ids.take i:=λbt=>by have⟨j,hj⟩:=ayc.1 bt;grind
  rw[IT hn];rfl
 |some j=>rw[azU]at hf;obtain⟨h1,h2,_⟩:=hf;have bt:ids[i]∈ids.take i:=ayc.2 ⟨j,av⟩;rw[BY bt];rfl
def Yw(l:List Stop)(hl:l.length<=maxLen)(i:Nat)(hi:i<l.length)(iO:List PV×Int×Unit->Option PV):cD.run (tH iO) (l.map Stop.pv,(i:Int),0,())=if(l.map Stop.id)[i]'(by simpa using hi)∈(l.map Stop.id).take i then U (res i 6)else if(O (l[i].Gd<0)||decide (l[i].Gd>=16)||decide (l[i].change<0)||decide (l[i].change>3600))=Y then U (res i 2)else iO (l.map Stop.pv,C .i64 ((i:Int)+1),()):=by
 have hm:=ax;have hgi:(l.map Stop.pv)[i]?=U l[i].pv:=av
 have hii:i<(l.map Stop.id).length:=by simpa using hi
 have awu:(l.map Stop.id)[i]=l[i].id:=ae
 rw[<-Yv (l.map Stop.id) i hii];refine aC (λk=>(l.map Stop.pv,(i:Int),(k:Int),())) i (λk=>if O ((l.map Stop.id)[k]?=U (l.map Stop.id)[i])=Y then U (U (res i 6))else Z) (λk hk rec=>?_) (λrec=>?_) ?_ rfl
 .have h1:O ((k:Int)<(i:Int))=true:=ah
  have mq:k<l.length:=aa
  have hgk:(l.map Stop.pv)[k]?=U l[k].pv:=av
  have hdk:O ((l.map Stop.id)[k]?=U (l.map Stop.id)[i])=O (l[k].id=l[i].id):=av
  unfold tH;dsimp only;rw[BY h1,af,hgk,ab,V1,af,hgi,ag aa,hdk];simp only[bU,ab,V1,bW];cases O (l[k].id=l[i].id)<;>rfl
 .unfold tH;dsimp only;rw[IT ae,af,hgi];simp only[ab,alz,alA,asInt,By,Q0,asBool,aG];have:(!(O (l[i].Gd>=0)&&O (l[i].Gd<=15))|| !(O (l[i].change>=0)&&O (l[i].change<=3600)))=(O (l[i].Gd<0)||decide (l[i].Gd>=16)||decide (l[i].change<0)||decide (l[i].change>3600)):=ao
  rw[this];rfl
 .have:=aP;omega
def afs(l:List Stop)(hl:l.length<=maxLen/\∀y∈l,y.Ok):wb [.rs 4 (l.map Stop.pv)]=U (res (gk l).1 (gk l).2):=by
 have hm:=ax;simp only[wb,G8,aJ,By,ab,te];unfold gk;by_cases kh:l.length>64
 .rw[BY ah,BY kh];rfl
 .rw[IT ah,IT kh,<-dr];refine aC (λk=>(l.map Stop.pv,(k:Int),())) l.length _ (λk hk rec=>?_) (λrec=>?_) ?_ rfl
  .have h1:O ((k:Int)<((l.map Stop.pv).length:Int))=true:=ah
   have hgk:(l.map Stop.pv)[k]?=U l[k].pv:=av
   have hid:=E7 l[k].id (hl.2 _ (alx hk)).id;have aoq:(l.map Stop.id)[k]'(by simpa using hk)=l[k].id:=ae
   unfold AF;dsimp only;rw[BY h1,af,hgk,ab,V1];simp only[bU,ab,hid,asBool];rw[Yw l hl.1 k hk rec,aoq,ag aa];unfold O6;rw[ta hk];simp only;generalize (O (l[k].Gd<0)||decide (l[k].Gd>=16)||decide (l[k].change<0)||decide (l[k].change>3600))=c;cases dq l[k].id with
   |false=>rfl
   |true=>
    by_cases bt:l[k].id∈(l.map Stop.id).take k
    .simp only[bt,By,aq3,AI,ax7,OF];rfl
    .simp only[bt,By,aq3,AI,ax7,OF];cases c<;>rfl
  .unfold AF;dsimp only;rw[IT ae];rfl
  .have:=aP;omega
def Q2(x:aD):cell x.pv 0=.str x.id:=rfl
def aiD(x:aD):cell x.pv 1=.int .i64 x.mode:=rfl
def Ln(l:List aD)(k:Nat):Int:=match l[k]? with
 |none=>0
 |some x=>if dq x.id=J then 12 else if x.id∈(l.map aD.id).take k then 6 else if(O (x.mode>=0)&&O (x.mode<8))=J then 2 else 0
def eC(l:List aD):Int×Int:=if l.length>64 then(0,5)else cg (Ln l) l.length
def Q3(l:List aD)(hl:l.length<=maxLen/\∀y∈l,y.Ok):pV [.rs 3 (l.map aD.pv)]=U (res (eC l).1 (eC l).2):=by
 have hm:=ax;simp only[pV,G9,aJ,By,ab,te];unfold eC;by_cases kh:l.length>64
 .rw[BY ah,BY kh];rfl
 .rw[IT ah,IT kh,<-dr];refine aC (λk=>(l.map aD.pv,(l.length:Int),(k:Int),seen PV.str ((l.map aD.id).take k),())) l.length _ (λk hk rec=>?_) (λrec=>?_) ?_ rfl
  .have h1:(k:Int)<(l.length:Int):=aa
   have hid:=AD l[k].id (hl.2 _ (alx hk)).id;have qX:=hZ wa l[k].id ((l.map aD.id).take k);have nh:=fT wa l[k].id ((l.map aD.id).take k);simp only[AG,tb,h1,By,af,AT,ta hk,IN,ab,aD.pv,cell,PV.cells,Uz,WK,bU,asInt,asBool,hid,qX,nh,aG,ag (aa:k<9223372036854775807),my aD.id l k hk,CR,Ha,bh];unfold Ln;rw[ta hk];simp only;generalize (O (l[k].mode>=0)&&O (l[k].mode<8))=c;cases dq l[k].id with
   |false=>rfl
   |true=>
    by_cases bt:l[k].id∈(l.map aD.id).take k
    .simp only[bt,By,aq3,AI,ax7,OF];rfl
    .simp only[bt,By,aq3,AI,ax7,OF];cases c<;>rfl
  .simp only[AG,tb,awV,OF];rfl
  .have:=aP;omega
def V2(l:List aD)(hl:l.length<=maxLen)(i:Nat)(hi:i<l.length)(iO:List PV×Int×Unit->Option PV):cD.run (qD iO) (l.map aD.pv,(i:Int),0,())=if(l.map aD.id)[i]'(by simpa using hi)∈(l.map aD.id).take i then U (res i 6)else if(O (l[i].mode>=0)&&O (l[i].mode<8))=J then U (res i 2)else iO (l.map aD.pv,C .i64 ((i:Int)+1),()):=by
 have hm:=ax;have hgi:(l.map aD.pv)[i]?=U l[i].pv:=av
 have hii:i<(l.map aD.id).length:=by simpa using hi
 have awu:(l.map aD.id)[i]=l[i].id:=ae
 rw[<-Yv (l.map aD.id) i hii];refine aC (λk=>(l.map aD.pv,(i:Int),(k:Int),())) i (λk=>if O ((l.map aD.id)[k]?=U (l.map aD.id)[i])=Y then U (U (res i 6))else Z) (λk hk rec=>?_) (λrec=>?_) ?_ rfl
 .have h1:O ((k:Int)<(i:Int))=true:=ah
  have mq:k<l.length:=aa
  have hgk:(l.map aD.pv)[k]?=U l[k].pv:=av
  have hdk:O ((l.map aD.id)[k]?=U (l.map aD.id)[i])=O (l[k].id=l[i].id):=av
  unfold qD;dsimp only;rw[BY h1,af,hgk,ab,Q2,af,hgi,ag aa,hdk];simp only[bU,ab,Q2,bW];cases O (l[k].id=l[i].id)<;>rfl
 .unfold qD;dsimp only;rw[IT ae,af,hgi];simp only[ab,aiD,asInt,By,Q0,asBool];have:(O (l[i].mode>=0)&&O (l[i].mode<=7))=(O (l[i].mode>=0)&&O (l[i].mode<8)):=ao
  rw[this];cases(O (l[i].mode>=0)&&O (l[i].mode<8))<;>rfl
 .have:=aP;omega
def abo(l:List aD)(hl:l.length<=maxLen/\∀y∈l,y.Ok):tI [.rs 3 (l.map aD.pv)]=U (res (eC l).1 (eC l).2):=by
 have hm:=ax;simp only[tI,E8,aJ,By,ab,te];unfold eC;by_cases kh:l.length>64
 .rw[BY ah,BY kh];rfl
 .rw[IT ah,IT kh,<-dr];refine aC (λk=>(l.map aD.pv,(k:Int),())) l.length _ (λk hk rec=>?_) (λrec=>?_) ?_ rfl
  .have h1:O ((k:Int)<((l.map aD.pv).length:Int))=true:=ah
   have hgk:(l.map aD.pv)[k]?=U l[k].pv:=av
   have hid:=E7 l[k].id (hl.2 _ (alx hk)).id;have aoq:(l.map aD.id)[k]'(by simpa using hk)=l[k].id:=ae
   unfold yg;dsimp only;rw[BY h1,af,hgk,ab,Q2];simp only[bU,ab,hid,asBool];rw[V2 l hl.1 k hk rec,aoq,ag aa];unfold Ln;rw[ta hk];simp only;generalize (O (l[k].mode>=0)&&O (l[k].mode<8))=c;cases dq l[k].id with
   |false=>rfl
   |true=>
    by_cases bt:l[k].id∈(l.map aD.id).take k
    .simp only[bt,By,aq3,AI,ax7,OF];rfl
    .simp only[bt,By,aq3,AI,ax7,OF];cases c<;>rfl
  .unfold yg;dsimp only;rw[IT ae];rfl
  .have:=aP;omega
def wi(n a b:Int):Bool:=O (n>=a)&&O (n<=b)
def Oa(n a b:Int):cW [.int .i64 n,.int .i64 a,.int .i64 b]=U (.bool (wi n a b)):=by simp only[cW,AH,asInt,By,ab,bh];rfl
def aft(x:bd):cell x.pv 0=.str x.id:=rfl
def aor(x:bd):cell x.pv 1=.int .i64 x.Ob:=rfl
def aos(x:bd):cell x.pv 2=.int .i64 x.Oc:=rfl
def aot(x:bd):cell x.pv 3=.int .i64 x.Od:=rfl
def aou(x:bd):cell x.pv 4=.int .i64 x.ck:=rfl
def aov(x:bd):cell x.pv 5=.int .i64 x.Oe:=rfl
def tJ(x:bd):Bool:= !wi x.Ob 0 1000000|| !wi x.Oc 1 8|| !wi x.Od 1 16|| !wi x.ck 0 86400|| !wi x.Oe 1 255
def O7(l:List bd)(k:Nat):Int:=match l[k]? with
 |none=>0
 |some x=>if dq x.id=J then 12 else if x.id∈(l.map bd.id).take k then 6 else if tJ x=Y then 2 else 0
def zi(l:List bd)(aZ within cap:Int):PV:=.agg [.rs 6 (l.map bd.pv),.int .i64 aZ,.int .i64 within,.int .i64 cap]
def du(l:List bd)(aZ within cap:Int):Int×Int:=if(!wi aZ 0 1000000|| !wi within 0 86400|| !wi cap 0 1000000)=Y then(-1,2)else if l.length>16 then(0,5)else cg (O7 l) l.length
def Q4(l:List bd)(aZ within cap:Int)(hl:l.length<=maxLen/\∀y∈l,y.Ok):mz [zi l aZ within cap]=U (res (du l aZ within cap).1 (du l aZ within cap).2):=by
 have hm:=ax;simp only[mz,CS,zi,asAgg,cell,PV.cells,Uz,WK,al6,are,Nat.reduceAdd,aJ,asInt,asBool,By,ab,te,Oa,aG];unfold du;generalize (!wi aZ 0 1000000|| !wi within 0 86400|| !wi cap 0 1000000)=c;cases c with
 |true=>rfl
 |false=>
  simp only[AI,OF];by_cases kh:l.length>16
  .rw[BY ah,BY kh];rfl
  .rw[IT ah,IT kh,<-dr];refine aC (λk=>(l.map bd.pv,(l.length:Int),(k:Int),seen PV.str ((l.map bd.id).take k),())) l.length _ (λk hk rec=>?_) (λrec=>?_) ?_ rfl
   .have h1:(k:Int)<(l.length:Int):=aa
    have hid:=AD l[k].id (hl.2 _ (alx hk)).id;have qX:=hZ wa l[k].id ((l.map bd.id).take k);have nh:=fT wa l[k].id ((l.map bd.id).take k);simp only[vC,tb,h1,By,af,AT,ta hk,IN,ab,aft,aor,aos,aot,aou,aov,bU,asInt,asBool,hid,qX,nh,Oa,aG,ag (aa:k<9223372036854775807),my bd.id l k hk];unfold O7;rw[ta hk];have hb:(!wi l[k].Ob 0 1000000|| !wi l[k].Oc 1 8|| !wi l[k].Od 1 16|| !wi l[k].ck 0 86400|| !wi l[k].Oe 1 255)=tJ l[k]:=rfl;simp only[hb];generalize tJ l[k]=c;cases dq l[k].id with
    |false=>rfl
    |true=>
     by_cases bt:l[k].id∈(l.map bd.id).take k
     .simp only[bt,By,aq3,AI,ax7,OF];rfl
     .simp only[bt,By,aq3,AI,ax7,OF];cases c<;>rfl
   .simp only[vC,tb,awV,OF];rfl
   .have:=aP;omega
def am5(n a b:Int):cv [.int .i64 n,.int .i64 a,.int .i64 b]=U (.bool (wi n a b)):=Q0 n a b
def Yx(l:List bd)(hl:l.length<=maxLen)(d w c:Int)(i:Nat)(hi:i<l.length)(iO:Int×List PV×Int×Int×Int×Unit->Option PV):cD.run (tK iO) ((i:Int),0,l.map bd.pv,d,w,c,.str l[i].id,.int .i64 l[i].Ob,.int .i64 l[i].Oc,.int .i64 l[i].Od,.int .i64 l[i].ck,.int .i64 l[i].Oe,())=if l[i].id∈(l.map bd.id).take i then U (res i 6)else if tJ l[i]=Y then U (res i 2)else iO (C .i64 ((i:Int)+1),l.map bd.pv,d,w,c,()):=by
 have hm:=ax;refine(dG (λk=>((i:Int),(k:Int),l.map bd.pv,d,w,c,PV.str l[i].id,PV.int .i64 l[i].Ob,PV.int .i64 l[i].Oc,PV.int .i64 l[i].Od,PV.int .i64 l[i].ck,PV.int .i64 l[i].Oe,())) i (λk=>O ((l.map bd.id)[k]?=U l[i].id)) (no:=U (res i 6)) (fin:=if tJ l[i]=Y then U (res i 2)else iO (C .i64 ((i:Int)+1),l.map bd.pv,d,w,c,())) (λk hk rec=>?_) (λrec=>?_) ?_ rfl).trans ?_
 .have h1:(k:Int)<(i:Int):=aa
  have mq:k<l.length:=aa
  simp only[tK,tb,h1,By,af,AT,ta mq,IN,ab,aft,bU,ag (aa:k<9223372036854775807),bW,tc];rfl
 .simp only[tK,tb,awV,OF,ab,asInt,By,am5,asBool,aG];rfl
 .have:=aP;omega
 .rw[jR _ _ ah];simp_all
def afu(l:List bd)(aZ within cap:Int)(hl:l.length<=maxLen/\∀y∈l,y.Ok):we [zi l aZ within cap]=U (res (du l aZ within cap).1 (du l aZ within cap).2):=by
 have hm:=ax;simp only[we,Hb,zi,asAgg,cell,PV.cells,Uz,WK,al6,are,Nat.reduceAdd,aJ,asInt,asBool,By,ab,te,am5,aG];unfold du;generalize (!wi aZ 0 1000000|| !wi within 0 86400|| !wi cap 0 1000000)=c;cases c with
 |true=>rfl
 |false=>
  simp only[AI,OF];by_cases kh:l.length>16
  .rw[BY ah,BY kh];rfl
  .rw[IT ah,IT kh,<-dr];refine aC (λk=>((k:Int),l.map bd.pv,aZ,within,cap,())) l.length _ (λk hk rec=>?_) (λrec=>?_) ?_ rfl
   .have h1:(k:Int)<(l.length:Int):=aa
    have hid:=E7 l[k].id (hl.2 _ (alx hk)).id;have nJ:=Yx l hl.1 aZ within cap k hk rec;simp only[AJ,tb,te,h1,By,af,AT,ta hk,IN,ab,aft,aor,aos,aot,aou,aov,bU,asBool,hid,nJ,ag (aa:k<9223372036854775807)];unfold O7;rw[ta hk];simp only;generalize tJ l[k]=c;cases dq l[k].id with
    |false=>rfl
    |true=>
     by_cases bt:l[k].id∈(l.map bd.id).take k
     .simp only[bt,By,aq3,AI,ax7,OF];rfl
     .simp only[bt,By,aq3,AI,ax7,OF];cases c<;>rfl
   .simp only[AJ,tb,te,awV,OF];rfl
   .have:=aP;omega
def nY(x:ar):cell x.pv 0=.int .i64 x.stop:=rfl
def ni(x:ar):cell x.pv 1=.int .i64 x.arr:=rfl
def jm(x:ar):cell x.pv 2=.int .i64 x.dep:=rfl
def gB(l:List ar):Nat->Option ar
 |0=>Z
 |k+1=>l[k]?
def lN(c:ar)(p:Option ar)(stops low high:Int):Int:=
 if(O (c.stop<0)||decide (c.stop>=stops))=Y then 9
 else if(match p with|some p=>O (p.stop=c.stop)|none=>J)=Y then 13
 else if(O (c.arr<low)||decide (c.arr>c.dep)||decide (c.dep>high)||(match p with|some p=>O (c.arr<p.dep)|none=>J))=Y then 10 else 0
def ng(l:List ar)(stops low high:Int)(k:Nat):Int:=match l[k]? with
 |none=>0
 |some c=>lN c (gB l k) stops low high
def bP(l:List ar)(stops low high:Int):Int×Int:=if(O ((l.length:Int)<2)||decide ((l.length:Int)>32))=Y then(0,5)else cg (ng l stops low high) l.length
def sl(j:Nat)(h:j<9223372036854775807):C .i64 (((j+1:Nat):Int)-1)=(j:Int):=sH
def Yy(l:List ar)(stops low high:Int)(k:Nat)(hk:k<l.length)(hl:l.length<=maxLen):E9 [.rs 5 (l.map ar.pv),.int .i64 k,.int .i64 stops,.int .i64 low,.int .i64 high]=U (.int .i64 (ng l stops low high k)):=by
 have hm:=ax;simp only[E9,Q5,aJ,asInt,By,ab,af,AT,ta hk,IN,nY,ni,jm,aG];unfold ng lN;rw[ta hk];simp only;cases k with
 |zero=>
  have h0:O (((0:Nat):Int)>0)=false:=bm
  simp only[h0,cond_false,ab,aG,ayT,gB];grind
 |succ j=>
  have h0:O (((j+1:Nat):Int)>0)=true:=ae
  have hj:j<l.length:=aa
  simp only[h0,cond_true,ab,sl j aa,af,AT,ta hj,IN,nY,jm,asInt,By,gB,bW,aG];grind
def D4(l:List ar)(stops low high:Int)(hl:l.length<=maxLen):jS [.rs 5 (l.map ar.pv),.int .i64 stops,.int .i64 low,.int .i64 high]=U (res (bP l stops low high).1 (bP l stops low high).2):=by
 have hm:=ax;simp only[jS,J2,aJ,asInt,By,ab,te,aG];unfold bP;split
 .rfl
 .rw[<-dr];refine aC (λk=>(l.map ar.pv,stops,low,high,(l.length:Int),(k:Int),())) l.length _ (λk hk rec=>?_) (λrec=>?_) ?_ rfl
  .have h1:(k:Int)<(l.length:Int):=aa
   simp only[CT,tb,h1,By,Yy l stops low high k hk hl,ab,asInt,ag (aa:k<9223372036854775807),dQ];grind [ng,Hc,bN,res]
  .simp only[CT,tb,awV,OF];rfl
  .have:=aP;omega
def MQ(l:List ar)(stops low high:Int)(hl:l.length<=maxLen):ko [.rs 5 (l.map ar.pv),.int .i64 stops,.int .i64 low,.int .i64 high]=U (.int .i64 (bP l stops low high).2):=by
 have hm:=ax;simp only[ko,Hd,aJ,asInt,By,ab,te,aG];unfold bP;split
 .rfl
 .rw[<-Q6];refine aC (λk=>(l.map ar.pv,stops,low,high,(k:Int),())) l.length _ (λk hk rec=>?_) (λrec=>?_) ?_ rfl
  .have h1:(k:Int)<(l.length:Int):=aa
   simp only[AK,tb,te,h1,By,af,AT,ta hk,IN,ab,nY,ni,jm,asInt,aG,ag (aa:k<9223372036854775807)];unfold ng lN;rw[ta hk];simp only;cases k with
   |zero=>
    have h0:O (((0:Nat):Int)>0)=false:=bm
    simp only[h0,cond_false,ab,aG,ayT,gB];generalize (O (l[0].stop<0)||decide (l[0].stop>=stops))=A;generalize (O (l[0].arr<low)||decide (l[0].arr>l[0].dep)||decide (l[0].dep>high))=B;cases A<;>cases B<;>rfl
   |succ j=>
    have h0:O (((j+1:Nat):Int)>0)=true:=ae
    have hj:j<l.length:=aa
    have hc:O (l[j+1].stop=l[j].stop)=O (l[j].stop=l[j+1].stop):=ao
    simp only[h0,cond_true,ab,sl j aa,af,AT,ta hj,IN,nY,jm,asInt,By,gB,bW,aG,hc];generalize (O (l[j+1].stop<0)||decide (l[j+1].stop>=stops))=A;generalize (O (l[j+1].arr<low)||decide (l[j+1].arr>l[j+1].dep)||decide (l[j+1].dep>high))=B;generalize O (l[j].stop=l[j+1].stop)=C10;generalize O (l[j+1].arr<l[j].dep)=D;cases A<;>cases B<;>cases C10<;>cases D<;>rfl
  .simp[AK,tb,te,awV,OF]
  .have:=aP;omega
structure aW where
 bg:Int
 day:Int
 inst:Int
 id:Bytes
 bn:Int
 free:Bool
 xr:Bool
 calls:List ar
 deriving DecidableEq
def aW.pv(x:aW):PV:=.agg [.int .i64 x.bg,.int .i64 x.day,.int .i64 x.inst,.str x.id,.int .i64 x.bn,.bool x.free,.bool x.xr,.rs 5 (x.calls.map ar.pv)]
structure aW.l9(M:Nat)(x:aW):Prop where
 bg:po x.bg
 day:po x.day
 inst:po x.inst
 id:x.id.length<=M
 bn:po x.bn
 calls:x.calls.length<=M/\∀y∈x.calls,y.l9 M
abbrev aW.Ok(x:aW):Prop:=x.l9 maxLen
def aa4(r:aW):asAgg 8 r.pv=U ():=rfl
def ah9(r:aW):PV.agg [cell r.pv 0,cell r.pv 1,cell r.pv 2,cell r.pv 3,cell r.pv 4,cell r.pv 5,cell r.pv 6,cell r.pv 7]=r.pv:=rfl
def JV(x:aW):cell x.pv 0=.int .i64 x.bg:=rfl
def F9(x:aW):cell x.pv 1=.int .i64 x.day:=rfl
def MG(x:aW):cell x.pv 2=.int .i64 x.inst:=rfl
def QG(x:aW):cell x.pv 3=.str x.id:=rfl
def X7(x:aW):cell x.pv 4=.int .i64 x.bn:=rfl
def aa5(x:aW):cell x.pv 5=.bool x.free:=rfl
def aa6(x:aW):cell x.pv 6=.bool x.xr:=rfl
def DN(x:aW):cell x.pv 7=.rs 5 (x.calls.map ar.pv):=rfl
structure aK where
 a:Int
 ac:Int
 b:Int
 bc:Int
 stay:Bool
 deriving DecidableEq
def aK.pv(x:aK):PV:=.agg [.int .i64 x.a,.int .i64 x.ac,.int .i64 x.b,.int .i64 x.bc,.bool x.stay]
structure aK.l9(M:Nat)(x:aK):Prop where
 a:po x.a
 ac:po x.ac
 b:po x.b
 bc:po x.bc
abbrev aK.Ok(x:aK):Prop:=x.l9 maxLen
def Q7(x:aK):cell x.pv 0=.int .i64 x.a:=rfl
def Yz(x:aK):cell x.pv 1=.int .i64 x.ac:=rfl
def link2(x:aK):cell x.pv 2=.int .i64 x.b:=rfl
def YA(x:aK):cell x.pv 3=.int .i64 x.bc:=rfl
def Ub(x:aK):cell x.pv 4=.bool x.stay:=rfl
def Q8(x:Path):cell x.pv 0=.int .i64 x.a:=rfl
def Q9(x:Path):cell x.pv 1=.int .i64 x.b:=rfl
def YB(x:Path):cell x.pv 2=.int .i64 x.ck:=rfl
def Ra(x:Path):cell x.pv 3=.bool x.free:=rfl
structure aB where
 stops:List Stop
 ak:List aD
 runs:List aW
 aA:List aK
 paths:List Path
 aF:List bd
 aZ:Int
 within:Int
 cap:Int
 deriving DecidableEq
def aB.pv(x:aB):PV:=.agg [.rs 4 (x.stops.map Stop.pv),.rs 3 (x.ak.map aD.pv),.rs 8 (x.runs.map aW.pv),.rs 5 (x.aA.map aK.pv),.rs 4 (x.paths.map Path.pv),.rs 6 (x.aF.map bd.pv),.int .i64 x.aZ,.int .i64 x.within,.int .i64 x.cap]
structure aB.l9(M:Nat)(x:aB):Prop where
 stops:x.stops.length<=M/\∀y∈x.stops,y.l9 M
 ak:x.ak.length<=M/\∀y∈x.ak,y.l9 M
 runs:x.runs.length<=M/\∀y∈x.runs,y.l9 M
 aA:x.aA.length<=M/\∀y∈x.aA,y.l9 M
 paths:x.paths.length<=M/\∀y∈x.paths,y.l9 M
 aF:x.aF.length<=M/\∀y∈x.aF,y.l9 M
 aZ:po x.aZ
 within:po x.within
 cap:po x.cap
abbrev aB.Ok(x:aB):Prop:=x.l9 maxLen
def CD(x:aB):asAgg 9 x.pv=U ():=rfl
def DO(x:aB):aJ 4 (cell x.pv 0)=U (x.stops.map Stop.pv):=rfl
def DP(x:aB):aJ 3 (cell x.pv 1)=U (x.ak.map aD.pv):=rfl
def DQ(x:aB):aJ 8 (cell x.pv 2)=U (x.runs.map aW.pv):=rfl
def DR(x:aB):aJ 5 (cell x.pv 3)=U (x.aA.map aK.pv):=rfl
def DS(x:aB):aJ 4 (cell x.pv 4)=U (x.paths.map Path.pv):=rfl
def DT(x:aB):aJ 6 (cell x.pv 5)=U (x.aF.map bd.pv):=rfl
def DU(x:aB):asInt .i64 (cell x.pv 6)=U x.aZ:=rfl
def DV(x:aB):asInt .i64 (cell x.pv 7)=U x.within:=rfl
def DW(x:aB):asInt .i64 (cell x.pv 8)=U x.cap:=rfl
def MR(x:aB):PV.agg [.rs 4 (x.stops.map Stop.pv),.rs 3 (x.ak.map aD.pv),.rs 8 (x.runs.map aW.pv),.rs 5 (x.aA.map aK.pv),.rs 4 (x.paths.map Path.pv),.rs 6 (x.aF.map bd.pv),.int .i64 x.aZ,.int .i64 x.within,.int .i64 x.cap]=x.pv:=rfl
def r3(p i e:Int):PV:=.agg [.int .i64 p,.int .i64 i,.int .i64 e]
def prt(p:Int)(x:Int×Int):PV:=if x.2=0 then r3 0 0 0 else r3 p x.1 x.2
def r3A(p i e:Int):asAgg 3 (r3 p i e)=U ():=rfl
def r30(p i e:Int):cell (r3 p i e) 0=.int .i64 p:=rfl
def r31(p i e:Int):cell (r3 p i e) 1=.int .i64 i:=rfl
def r32(p i e:Int):cell (r3 p i e) 2=.int .i64 e:=rfl
def YC(p i e:Int):ma [.int .i64 p,.int .i64 i,.int .i64 e]=U (r3 p i e):=rfl
def J3(n m:Int):ec [.int .i64 n,.int .i64 m]=U (.bool (O (n>=0)&&O (n<m))):=by simp[ec,AL,asInt,By,ab,bh]
variable{R:Type}
def sn(f:Nat->Int)(n:Nat)(g:Int->Int->R)(fin:Option R):bN ((I n).findSome? λk=>if f k=0 then Z else U (U (g k (f k)))) fin=if(cg f n).2=0 then fin else U (g (cg f n).1 (cg f n).2):=by
 unfold cg;have:(I n).findSome? (λk=>if f k=0 then Z else U (U (g k (f k))))=((I n).findSome? (λk=>if f k=0 then Z else U ((k:Int),f k))).map λx=>U (g x.1 x.2):=by rw[aAH];congr 1;grind
 rw[this];cases hf:(I n).findSome? (λk=>if f k=0 then Z else U ((k:Int),f k))with
 |none=>rfl
 |some x=>
  have⟨k,_,hk⟩:=ayC hf;have hx:x.2≠0:=ao
  simp_all[IN,bN,IT]
def kn(f:Nat->Int)(n:Nat):(cg f n).2=0↔∀k,k<n->f k=0:=by
 unfold cg;cases hf:(I n).findSome? (λk=>if f k=0 then Z else U ((k:Int),f k))with
 |none=>simp_all
 |some x=>have⟨k,hk,hx⟩:=ayC hf;grind
def CU{S:Type}{body:S->(S->Option R)->Option R}(st:Nat->S)(n:Nat)(bad:Nat->Option (Option R)){fin:Option R}(h:∀k,k<n->(∀j,j<k->bad j=Z)->∀rec,body (st k) rec=bN (bad k) (rec (st (k+1))))(sx:(∀j,j<n->bad j=Z)->∀rec,body (st n) rec=fin)(hn:n<rounds){s0:S}(h0:st 0=s0):cD.run body s0=bN ((I n).findSome? bad) fin:=by
 by_cases uX:∀j,j<n->bad j=Z
 .have:(I n).findSome? bad=none:=av
  rw[this];refine aM st n (λk hk rec=>?_) (sx uX) hn h0;rw[h k hk (λj hj=>uX j aa),uX k hk];rfl
 .have hex:∃m,m<n/\bad m≠Z/\∀j,j<m->bad j=none:=by
   have key:∀m,(∃i,i<m/\i<n/\bad i≠Z)->∃m,m<n/\bad m≠Z/\∀j,j<m->bad j=none:=by
    intro m;induction m with
    |zero=>omega
    |succ m ih=>
     intro hi;by_cases hc:∃i,i<m/\i<n/\bad i≠Z
     .exact ih hc
     grind
   have hc:∃i,i<n/\bad i≠none:=av
   obtain⟨i,h1,h2⟩:=hc;exact key n ⟨i,h1,h1,h2⟩
  obtain⟨m,hm,hb,bX⟩:=hex;cases hbm:bad m with
  |none=>exact absurd hbm hb
  |some x=>
   have hf:(I n).findSome? bad=U x:=by
    have hnm:n=m+(n-m):=aa
    rw[hnm,List.range_add,aBc];have h1:(I m).findSome? bad=none:=ao
    rw[h1,Option.none_or];have hd:n-m=(n-m-1)+1:=aa
    rw[hd,azB,ayb,ay5,az4,hbm]
   rw[hf];refine aM st m (λk hk rec=>?_) (λrec=>?_) aa h0
   .rw[h k aa (λj hj=>bX j aa),bX k hk];rfl
   .rw[h m hm bX,hbm];rfl
def vW{A:Type}[DecidableEq A](a b:List A)(h:a.length=b.length)(no fin:Option R):bN ((I a.length).findSome? λk=>if a[k]?=b[k]? then Z else U no) fin=if a=b then fin else no:=by
 by_cases xH:a=b
 .rw[BY xH];have:(I a.length).findSome? (λk=>if a[k]?=b[k]? then Z else U no)=none:=av
  rw[this];rfl
 .rw[IT xH];cases hf:(I a.length).findSome? (λk=>if a[k]?=b[k]? then Z else U no)with
  |none=>refine absurd (ayI λk=>?_) xH;grind
  |some x=>
   have⟨k,hk,hx⟩:=ayC hf;by_cases h0:a[k]?=b[k]?
   .simp_all
   .rw[IT h0]at hx;simp only[tc]at hx;subst hx;rfl
end Go.Ab.Tt
namespace Go.Ab.Tt
set_option maxRecDepth 100000
def bH(x:Path):Int×Int×Bool:=(x.a,x.b,x.free)
def MS(x:Int×Int×Bool):PV:=.agg [.int .i64 x.1,.int .i64 x.2.1,.bool x.2.2]
def YD(a b:Int×Int×Bool):cz (MS a).cells (MS b).cells=O (a=b):=by obtain⟨a1,a2,a3⟩:=a;obtain⟨b1,b2,b3⟩:=b;rw[ayo];simp[MS,PV.cells,cz,peq]
def dw(l:List Path)(n:Int)(k:Nat):Int:=match l[k]? with
 |none=>0
 |some x=>if(O (x.a<0)||decide (x.a>=n)||decide (x.b<0)||decide (x.b>=n)||decide (x.a=x.b))=Y then 9 else if(O (x.ck<1)||decide (x.ck>14400))=Y then 2 else if bH x∈(l.map bH).take k then 6 else 0
def Rb(l:List Path)(n:Int)(hl:l.length<=maxLen):lr [.rs 4 (l.map Path.pv),.int .i64 n]=U (res (cg (dw l n) l.length).1 (cg (dw l n) l.length).2):=by
 have hm:=ax;simp only[lr,AM,aJ,asInt,By,ab,te];rw[<-dr];refine aC (λk=>(n,l.map Path.pv,(l.length:Int),(k:Int),seen MS ((l.map bH).take k),())) l.length _ (λk hk rec=>?_) (λrec=>?_) ?_ rfl
 .have h1:(k:Int)<(l.length:Int):=aa
  have qX:eu (.agg [.int .i64 l[k].a,.int .i64 l[k].b,.bool l[k].free]) (.bool Y) (seen MS ((l.map bH).take k))=_:=hZ YD (bH l[k]) ((l.map bH).take k);have nh:eY (.agg [.int .i64 l[k].a,.int .i64 l[k].b,.bool l[k].free]) (.bool J) (seen MS ((l.map bH).take k))=_:=fT YD (bH l[k]) ((l.map bH).take k);simp only[tL,tb,h1,By,af,AT,ta hk,IN,ab,Q8,Q9,YB,Ra,asInt,asBool,qX,nh,bW,ag (aa:k<9223372036854775807),my bH l k hk];unfold dw;rw[ta hk];simp only;by_cases bt:bH l[k]∈(l.map bH).take k
  .simp only[bt,By];by_cases e1:l[k].a<0<;>by_cases e2:l[k].a>=n<;>by_cases e3:l[k].b<0<;>by_cases e4:l[k].b>=n<;>by_cases e5:l[k].a=l[k].b<;>by_cases e6:l[k].ck<1<;>by_cases e7:l[k].ck>14400<;>simp only[e1,e2,e3,e4,e5,e6,e7,ayk,ayf,aBq,aBa,ayT,By,OF,AI]<;>rfl
  .simp only[bt,OF,AI];by_cases e1:l[k].a<0<;>by_cases e2:l[k].a>=n<;>by_cases e3:l[k].b<0<;>by_cases e4:l[k].b>=n<;>by_cases e5:l[k].a=l[k].b<;>by_cases e6:l[k].ck<1<;>by_cases e7:l[k].ck>14400<;>simp only[e1,e2,e3,e4,e5,e6,e7,ayk,ayf,aBq,aBa,ayT,By,OF,AI]<;>rfl
 .simp only[tL,tb,awV,OF];rfl
 .have:=aP;omega
def toFp(p:Path):Nw.Fp:=⟨p.a.toNat,p.b.toNat,p.ck.toNat,p.free⟩
def Sound(l:List Path)(n:Nat):Prop:=∀p∈l,0<=p.a/\p.a<n/\0<=p.b/\p.b<n/\1<=p.ck/\p.ck<=14400
variable{l:List Path}{n:Nat}
theorem Lf(h:(cg (dw l n) l.length).2=0):Sound l n:=by intro p hp;obtain⟨k,hk,rfl⟩:=azZ hp;have h0:=(kn _ _).1 h k hk;unfold dw at h0;grind
def toFp_pv{p:Path}(h1:0<=p.a)(h2:0<=p.b)(h3:1<=p.ck):(toFp p).pv=p.pv:=by grind [toFp,Nw.Fp.pv,Path.pv,Int.toNat_of_nonneg]
def Yl(h:Sound l n):(l.map toFp).map Nw.Fp.pv=l.map Path.pv:=by rw[azI];apply ayE;intro p hp;exact toFp_pv (h p hp).1 (h p hp).2.2.1 (h p hp).2.2.2.2.1
def zg(e:List PV):Path:=match e with|[.int .i64 a,.int .i64 b,.int .i64 s,.bool f]=>⟨a,b,s,f⟩|_=>⟨0,0,0,J⟩
def JX:∀(L:List (List PV)),(∀e∈L,Nw.IsF e)->gx L=(L.map zg).map Path.pv
 |[],_=>rfl
 |e::L,h=>by obtain⟨i,k,s,b,rfl⟩:=h e ae;have:=JX L λx hx=>h x (by simp[hx]);unfold gx at this⊢;rw[ayb,ayb,ayb,this];rfl
def dK(l:List Path)(n:Nat):List Path:=(Nw.Ga n (Nw.gA n (l.map toFp) J) (Nw.gA n (l.map toFp) Y)).map zg
def MJ(hn:n<=64)(hl:l.length<=8192)(h:Sound l n):fU [.rs 4 (l.map Path.pv),.int .i64 n]=U (.rs 4 ((dK l n).map Path.pv))/\lu [.rs 4 (l.map Path.pv),.int .i64 n]=U (.rs 4 ((dK l n).map Path.pv)):=by have:=Nw.abp (l.map toFp) n hn (by simpa using hl) (λp hp=>by obtain⟨q,hq,rfl⟩:=ayl.1 hp;have:=h q hq;simp only[toFp];omega);rw[Yl h,JX _ (Nw.QQ n _ _)]at this;exact this
def Lh(l:List Path)(n:Nat)(hn:n<=64):(dK l n).length<=8192:=by
 have h1:(dK l n).length=(gx (Nw.Ga n (Nw.gA n (l.map toFp) J) (Nw.gA n (l.map toFp) Y))).length:=by simp[dK,gx]
 rw[h1,Nw.IC];have h2:=Nw.G6 (it:=λi k=>Nw.DZ (Nw.gA n (l.map toFp) J i k) (Nw.gA n (l.map toFp) Y i k) i k) (λi k=>Nw.Ll _ _ i k) n n;have h3:2*n*n<=2*64*64:=azM (azy 2 hn) hn;omega
def YE(x y:Path):cz [cell x.pv 0,cell x.pv 1,cell x.pv 2,cell x.pv 3] [cell y.pv 0,cell y.pv 1,cell y.pv 2,cell y.pv 3]=O (x=y):=by rw[ayo];obtain⟨a,b,c,d⟩:=x;obtain⟨a',b',c',d'⟩:=y;simp[Q8,Q9,YB,Ra,cz,peq]
def Lp(x:Path):rS (Kd.int IntKind.i64::[].append (Kd.int IntKind.i64::[].append (Kd.int IntKind.i64::[].append (Kd.bool::[].append [])))) [cell x.pv 0,cell x.pv 1,cell x.pv 2,cell x.pv 3]=true:=rfl
def vZ(l:List Path)(n:Nat):Bool:=O (dK l n=l)
def YF(hn:n<=64)(hl:l.length<=8192)(h:(cg (dw l n) l.length).2=0):kF [.rs 4 (l.map Path.pv),.int .i64 n]=U (.bool (vZ l n)):=by
 have hm:8192<=maxLen:=bj
 have hs:=Rb l n aa;have hf:=afv _ _ h;rw[h,hf]at hs;have hc:=(MJ hn hl (Lf h)).1;have vR:=Lh l n hn;have kh:¬O ((n:Int)>64)=true:=ah
 have h0:¬(0:Int)>(n:Int):=aa
 simp only[kF,tM,aJ,asInt,By,ab];rw[IT kh,hs];simp only[res,bY,al6,are,Nat.reduceAdd,By,ab,Uz,WK,asInt,IT h0,hc,aJ,te];rw[IT ae];unfold vZ;by_cases hlen:(dK l n).length=l.length
 .rw[IT (by simp[dQ,hlen])];have hr:=vW (dK l n) l hlen (U (PV.bool J)) (U (PV.bool Y));have:U (PV.bool (O (dK l n=l)))=if dK l n=l then U (PV.bool Y)else U (PV.bool J):=ao
  rw[this,<-hr];refine aC (λk=>(l.map Path.pv,(dK l n).map Path.pv,((dK l n).length:Int),(k:Int),())) (dK l n).length _ (λk hk rec=>?_) (λrec=>?_) ?_ rfl
  .have h1:O ((k:Int)<((dK l n).length:Int))=true:=ah
   have mq:k<l.length:=aa
   unfold nZ;dsimp only;rw[BY h1,af,AT,ta hk,af,AT,ta mq];simp only[IN,ab];rw[BY ⟨Lp _,Lp _⟩,YE,ag aa];grind [dK,bN]
  .simp[nZ,IT]
  .have:=aP;omega
 .rw[BY (by simp[dQ];omega)];rw[aAy (λhc=>hlen (by rw[hc]))]
def dp(l:List Path)(n:Nat):Int×Int:=if(cg (dw l n) l.length).2=0 then(if vZ l n=Y then(0,0)else(0,18))else cg (dw l n) l.length
def CV(x:Int×Int×Bool):PV:=.agg [.int .i64 x.1,.int .i64 x.2.1,.int .i64 0,.bool x.2.2]
def asq(a b:Int×Int×Bool):cz (CV a).cells (CV b).cells=O (a=b):=by obtain⟨a1,a2,a3⟩:=a;obtain⟨b1,b2,b3⟩:=b;rw[ayo];simp[CV,PV.cells,cz,peq]
def Of(N:aB)(l:List Path)(n:Nat)(hl:l.length<=8192)(hlen:(N.stops.map Stop.pv).length=n)(k:Nat)(hk:k<l.length)(rec:alB->Option PV):dE (l.map Path.pv,(l.length:Int),(k:Int),N.stops.map Stop.pv,N.ak.map aD.pv,N.runs.map aW.pv,N.aA.map aK.pv,l.map Path.pv,N.aF.map bd.pv,N.aZ,N.within,N.cap,0,0,0,seen CV ((l.map bH).take k),()) rec=bN (if dw l n k=0 then Z else U (U (r3 4 k (dw l n k)))) (rec (l.map Path.pv,(l.length:Int),((k+1:Nat):Int),N.stops.map Stop.pv,N.ak.map aD.pv,N.runs.map aW.pv,N.aA.map aK.pv,l.map Path.pv,N.aF.map bd.pv,N.aZ,N.within,N.cap,0,0,0,seen CV ((l.map bH).take (k+1)),())):=by
 have h1:O ((k:Int)<(l.length:Int))=true:=ah
 have qX:eu (.agg [.int .i64 l[k].a,.int .i64 l[k].b,.int .i64 0,.bool l[k].free]) (.bool Y) (seen CV ((l.map bH).take k))=_:=hZ asq (bH l[k]) ((l.map bH).take k);have nh:eY (.agg [.int .i64 l[k].a,.int .i64 l[k].b,.int .i64 0,.bool l[k].free]) (.bool J) (seen CV ((l.map bH).take k))=_:=fT asq (bH l[k]) ((l.map bH).take k);unfold dE;dsimp only;rw[BY h1,af,AT,ta hk,hlen];simp only[IN,ab,Q8,Q9,YB,Ra,asInt,asBool,By,J3,aG,bW,qX,nh,YC,r3A,r30,r31,r32,my bH l k hk,ag (aa:k<9223372036854775807)];have hA:(!(O (l[k].a>=0)&&O (l[k].a<(n:Int)))|| !(O (l[k].b>=0)&&O (l[k].b<(n:Int)))||decide (l[k].a=l[k].b))=(O (l[k].a<0)||decide (l[k].a>=(n:Int))||decide (l[k].b<0)||decide (l[k].b>=(n:Int))||decide (l[k].a=l[k].b)):=ao
 rw[hA];unfold dw;rw[ta hk];simp only;generalize (O (l[k].a<0)||decide (l[k].a>=(n:Int))||decide (l[k].b<0)||decide (l[k].b>=(n:Int))||decide (l[k].a=l[k].b))=A;generalize (O (l[k].ck<1)||decide (l[k].ck>14400))=B;by_cases bt:bH l[k]∈(l.map bH).take k
 .simp only[bt,By];cases A<;>cases B<;>rfl
 .simp only[bt,OF];cases A<;>cases B<;>rfl
def SB(N:aB)(hn:N.stops.length<=64)(hl:N.paths.length<=8192):jT [N.pv]=U (prt 4 (dp N.paths N.stops.length)):=by
 have hm:8192<=maxLen:=bj
 simp only[jT,rB,CD,DO,DP,DQ,DR,DS,DT,DU,DV,DW,ab,te];generalize hl':N.paths=l at hl⊢;generalize ZZ:N.stops.length=n at hn⊢;have hlen:(N.stops.map Stop.pv).length=n:=by simpa using ZZ
 have hg:=sn (dw l n) l.length (λi e=>r3 4 i e) (U (if vZ l n=Y then r3 0 0 0 else r3 4 0 18));have hR:U (prt 4 (dp l n))=if(cg (dw l n) l.length).2=0 then U (if vZ l n=Y then r3 0 0 0 else r3 4 0 18)else U (r3 4 (cg (dw l n) l.length).1 (cg (dw l n) l.length).2):=by unfold dp prt;grind
 rw[hR,<-hg];by_cases hz:(cg (dw l n) l.length).2=0
 .refine aC (λk=>(l.map Path.pv,(l.length:Int),(k:Int),N.stops.map Stop.pv,N.ak.map aD.pv,N.runs.map aW.pv,N.aA.map aK.pv,l.map Path.pv,N.aF.map bd.pv,N.aZ,N.within,N.cap,0,0,0,seen CV ((l.map bH).take k),())) l.length _ (λk hk rec=>Of N l n hl hlen k hk rec) (λrec=>?_) ?_ rfl
  .unfold dE;dsimp only;rw[IT ae,hlen,YF hn hl hz];simp only[ab,asBool,YC,r3A,r30,r31,r32];cases vZ l n<;>rfl
  .have:=aP;omega
 .have fL:=aC (body:=dE) (λk=>(l.map Path.pv,(l.length:Int),(k:Int),N.stops.map Stop.pv,N.ak.map aD.pv,N.runs.map aW.pv,N.aA.map aK.pv,l.map Path.pv,N.aF.map bd.pv,N.aZ,N.within,N.cap,0,0,0,seen CV ((l.map bH).take k),())) l.length _ (fin:=dE (l.map Path.pv,(l.length:Int),(l.length:Int),N.stops.map Stop.pv,N.ak.map aD.pv,N.runs.map aW.pv,N.aA.map aK.pv,l.map Path.pv,N.aF.map bd.pv,N.aZ,N.within,N.cap,0,0,0,seen CV ((l.map bH).take l.length),()) λ_=>Z) (λk hk rec=>Of N l n hl hlen k hk rec) (λrec=>?_) nN (s0:=(l.map Path.pv,(l.length:Int),0,N.stops.map Stop.pv,N.ak.map aD.pv,N.runs.map aW.pv,N.aA.map aK.pv,l.map Path.pv,N.aF.map bd.pv,N.aZ,N.within,N.cap,0,0,0,[],())) rfl
  .simp_all[sn,IT]
  simp[dE,IT]
def V3(N:aB)(l:List Path)(hl:l.length<=8192)(i:Nat)(hi:i<l.length)(iO:aiE->Option PV):cD.run (tN iO) ((i:Int),0,N.stops.map Stop.pv,N.ak.map aD.pv,N.runs.map aW.pv,N.aA.map aK.pv,l.map Path.pv,N.aF.map bd.pv,N.aZ,N.within,N.cap,.int .i64 l[i].a,.int .i64 l[i].b,.int .i64 l[i].ck,.bool l[i].free,())=if bH l[i]∈(l.map bH).take i then U (res i 6)else iO (C .i64 ((i:Int)+1),N.stops.map Stop.pv,N.ak.map aD.pv,N.runs.map aW.pv,N.aA.map aK.pv,l.map Path.pv,N.aF.map bd.pv,N.aZ,N.within,N.cap,()):=by
 have hm:8192<=maxLen:=bj
 refine(dG (λk=>((i:Int),(k:Int),N.stops.map Stop.pv,N.ak.map aD.pv,N.runs.map aW.pv,N.aA.map aK.pv,l.map Path.pv,N.aF.map bd.pv,N.aZ,N.within,N.cap,PV.int .i64 l[i].a,PV.int .i64 l[i].b,PV.int .i64 l[i].ck,PV.bool l[i].free,())) i (λk=>O ((l.map bH)[k]?=U (bH l[i]))) (no:=U (res i 6)) (fin:=iO (C .i64 ((i:Int)+1),N.stops.map Stop.pv,N.ak.map aD.pv,N.runs.map aW.pv,N.aA.map aK.pv,l.map Path.pv,N.aF.map bd.pv,N.aZ,N.within,N.cap,())) (λk hk rec=>?_) (λrec=>?_) ?_ rfl).trans ?_
 .have h1:O ((k:Int)<(i:Int))=true:=ah
  have mq:k<l.length:=aa
  have hd:O ((l.map bH)[k]?=U (bH l[i]))=(O (l[k].a=l[i].a)&&O (l[k].b=l[i].b)&&O (l[k].free=l[i].free)):=by rw[ayo];simp[ta mq,bH,aAr]
  rw[hd];unfold tN;dsimp only;rw[BY h1,af,AT,ta mq];simp only[IN,ab,Q8,Q9,Ra,asInt,asBool,By,ag (aa:k<9223372036854775807),bW,bh];rfl
 .simp[tN,IT]
 .have:=aP;omega
 .rw[jR _ _ ah];simp_all
def afw(N:aB)(hn:N.stops.length<=64)(hl:N.paths.length<=8192):wg [N.pv]=U (res (dp N.paths N.stops.length).1 (dp N.paths N.stops.length).2):=by
 have hm:8192<=maxLen:=bj
 simp only[wg,He,CD,DO,DP,DQ,DR,DS,DT,DU,DV,DW,ab];generalize hl':N.paths=l at hl⊢;generalize ZZ:N.stops.length=n at hn⊢;have hlen:(N.stops.map Stop.pv).length=n:=by simpa using ZZ
 have hw:C .i64 ((n:Int)-1)=(n:Int)-1:=bJ aa aa;have aiF:∀k,(hk:k<l.length)->∀rec,iR cD ((k:Int),N.stops.map Stop.pv,N.ak.map aD.pv,N.runs.map aW.pv,N.aA.map aK.pv,l.map Path.pv,N.aF.map bd.pv,N.aZ,N.within,N.cap,()) rec=bN (if dw l n k=0 then Z else U (U (res k (dw l n k)))) (rec (((k+1:Nat):Int),N.stops.map Stop.pv,N.ak.map aD.pv,N.runs.map aW.pv,N.aA.map aK.pv,l.map Path.pv,N.aF.map bd.pv,N.aZ,N.within,N.cap,())):=by
  intro k hk rec;have h1:O ((k:Int)<((l.map Path.pv).length:Int))=true:=ah
  have nJ:=V3 N l hl k hk rec;unfold iR;dsimp only;rw[BY h1,af,AT,ta hk,hlen,hw];simp only[IN,ab,Q8,Q9,YB,Ra,asInt,asBool,By,Q0,aG,bW,nJ,ag (aa:k<9223372036854775807)];have hA:(!(O (l[k].a>=0)&&O (l[k].a<=(n:Int)-1))|| !(O (l[k].b>=0)&&O (l[k].b<=(n:Int)-1))||decide (l[k].a=l[k].b))=(O (l[k].a<0)||decide (l[k].a>=(n:Int))||decide (l[k].b<0)||decide (l[k].b>=(n:Int))||decide (l[k].a=l[k].b)):=ao
  have hB:(!(O (l[k].ck>=1)&&O (l[k].ck<=14400)))=(O (l[k].ck<1)||decide (l[k].ck>14400)):=ao
  rw[hA,hB];unfold dw;rw[ta hk];simp only;generalize (O (l[k].a<0)||decide (l[k].a>=(n:Int))||decide (l[k].b<0)||decide (l[k].b>=(n:Int))||decide (l[k].a=l[k].b))=A;generalize (O (l[k].ck<1)||decide (l[k].ck>14400))=B;by_cases bt:bH l[k]∈(l.map bH).take k
  .simp only[bt,By];cases A<;>cases B<;>rfl
  .simp only[bt,OF];cases A<;>cases B<;>rfl
 have hg:=sn (dw l n) l.length (λi e=>res i e) (U (if vZ l n=Y then res 0 0 else res 0 18));have hR:U (res (dp l n).1 (dp l n).2)=if(cg (dw l n) l.length).2=0 then U (if vZ l n=Y then res 0 0 else res 0 18)else U (res (cg (dw l n) l.length).1 (cg (dw l n) l.length).2):=by unfold dp;grind
 rw[hR,<-hg];by_cases hz:(cg (dw l n) l.length).2=0
 .refine aC (λk=>((k:Int),N.stops.map Stop.pv,N.ak.map aD.pv,N.runs.map aW.pv,N.aA.map aK.pv,l.map Path.pv,N.aF.map bd.pv,N.aZ,N.within,N.cap,())) l.length _ aiF (λrec=>?_) ?_ rfl
  .have hc:=(MJ hn hl (Lf hz)).2;have vR:=Lh l n hn;unfold iR;dsimp only;rw[IT ae,hlen,hc];simp only[ab,aJ,By,te];unfold vZ;by_cases aiG:(dK l n).length=l.length
   .rw[IT (by simp[dQ,aiG])];have hr:=vW (dK l n) l aiG (U (res 0 18)) (U (res 0 0));have:U (if O (dK l n=l)=Y then res 0 0 else res 0 18)=if dK l n=l then U (res 0 0)else U (res 0 18):=ao
    rw[this,<-hr];refine aC (λk=>((dK l n).map Path.pv,(k:Int),N.stops.map Stop.pv,N.ak.map aD.pv,N.runs.map aW.pv,N.aA.map aK.pv,l.map Path.pv,N.aF.map bd.pv,N.aZ,N.within,N.cap,())) (dK l n).length _ (λk hk rec=>?_) (λrec=>?_) ?_ rfl
    .have h1:O ((k:Int)<(((dK l n).map Path.pv).length:Int))=true:=ah
     have mq:k<l.length:=aa
     unfold AN;dsimp only;rw[BY h1,af,AT,ta hk,af,AT,ta mq];simp only[IN,ab];rw[BY ⟨Lp _,Lp _⟩,YE,ag aa];grind [dK,bN,res]
    .unfold AN;dsimp only;rw[IT ae];rfl
    .have:=aP;omega
   .rw[BY (by simp[dQ];omega)];rw[aAy (λhc=>aiG (by rw[hc]))];rfl
  .have:=aP;omega
 .have fL:=aC (body:=iR cD) (λk=>((k:Int),N.stops.map Stop.pv,N.ak.map aD.pv,N.runs.map aW.pv,N.aA.map aK.pv,l.map Path.pv,N.aF.map bd.pv,N.aZ,N.within,N.cap,())) l.length _ (fin:=iR cD ((l.length:Int),N.stops.map Stop.pv,N.ak.map aD.pv,N.runs.map aW.pv,N.aA.map aK.pv,l.map Path.pv,N.aF.map bd.pv,N.aZ,N.within,N.cap,()) λ_=>Z) aiF (λrec=>?_) nN (s0:=(0,N.stops.map Stop.pv,N.ak.map aD.pv,N.runs.map aW.pv,N.aA.map aK.pv,l.map Path.pv,N.aF.map bd.pv,N.aZ,N.within,N.cap,())) rfl
  .simp_all[sn,IT]
  simp[iR,IT]
def cr(x:aW):Bytes×Int×Int:=(x.id,x.day,x.inst)
def YG(x:Bytes×Int×Int):PV:=.agg [.str x.1,.int .i64 x.2.1,.int .i64 x.2.2]
def aiH(a b:Bytes×Int×Int):cz (YG a).cells (YG b).cells=O (a=b):=by obtain⟨a1,a2,a3⟩:=a;obtain⟨b1,b2,b3⟩:=b;rw[ayo];simp[YG,PV.cells,cz,peq]
def nX(l:List aW)(stops ak:Int)(k:Nat):Int:=match l[k]? with
 |none=>0
 |some x=>if dq x.id=J then 12 else if(O (x.bg< -1)||decide (x.inst<0))=Y then 2 else if(O (x.day<0)||decide (x.day>36524))=Y then 11 else if(O (x.bn<0)||decide (x.bn>=ak))=Y then 9 else if(bP x.calls stops 0 3155932800).2=0 then(if cr x∈(l.map cr).take k then 6 else 0)else(bP x.calls stops 0 3155932800).2
def jP(l:List aW)(stops ak:Int):Int×Int:=if l.length>1024 then(0,5)else cg (nX l stops ak) l.length
def abq(N:aB)(l:List aW)(hl:l.length<=maxLen/\∀y∈l,y.Ok)(k:Nat)(hk:k<l.length)(rec:alB->Option PV):jU (l.map aW.pv,(l.length:Int),(k:Int),N.stops.map Stop.pv,N.ak.map aD.pv,l.map aW.pv,N.aA.map aK.pv,N.paths.map Path.pv,N.aF.map bd.pv,N.aZ,N.within,N.cap,0,0,0,seen YG ((l.map cr).take k),()) rec=bN (if nX l N.stops.length N.ak.length k=0 then Z else U (U (r3 2 k (nX l N.stops.length N.ak.length k)))) (rec (l.map aW.pv,(l.length:Int),((k+1:Nat):Int),N.stops.map Stop.pv,N.ak.map aD.pv,l.map aW.pv,N.aA.map aK.pv,N.paths.map Path.pv,N.aF.map bd.pv,N.aZ,N.within,N.cap,0,0,0,seen YG ((l.map cr).take (k+1)),())):=by
 have hm:=ax;have h1:O ((k:Int)<(l.length:Int))=true:=ah
 have hO:=hl.2 _ (alx hk);have hid:=AD l[k].id hO.id;have fO:=D4 l[k].calls N.stops.length 0 3155932800 hO.calls.1;simp only[res]at fO;have qX:eu (.agg [.str l[k].id,.int .i64 l[k].day,.int .i64 l[k].inst]) (.bool Y) (seen YG ((l.map cr).take k))=_:=hZ aiH (cr l[k]) ((l.map cr).take k);have nh:eY (.agg [.str l[k].id,.int .i64 l[k].day,.int .i64 l[k].inst]) (.bool J) (seen YG ((l.map cr).take k))=_:=fT aiH (cr l[k]) ((l.map cr).take k);unfold jU;dsimp only;rw[BY h1,af,AT,ta hk];simp only[IN,ab,JV,F9,MG,QG,X7,DN,bU,asInt,asBool,aJ,By,te,hid,fO,bY,al6,are,Nat.reduceAdd,Uz,WK,aG,dQ,qX,nh,YC,r3A,r30,r31,r32,my cr l k hk,ag (aa:k<9223372036854775807)];unfold nX;rw[ta hk];simp only;generalize (O (l[k].bg< -1)||decide (l[k].inst<0))=A;generalize (O (l[k].day<0)||decide (l[k].day>36524))=B;generalize (O (l[k].bn<0)||decide (l[k].bn>=(N.ak.length:Int)))=C10;generalize (bP l[k].calls N.stops.length 0 3155932800).2=e;cases dq l[k].id with
 |false=>rfl
 |true=>
  cases A with
  |true=>rfl
  |false=>
   cases B with
   |true=>rfl
   |false=>
    cases C10 with
    |true=>rfl
    |false=>
     simp only[aq3,AI,ax7,OF];by_cases he:e=0
     .subst he;by_cases bt:cr l[k]∈(l.map cr).take k
      .simp only[bt,By,ayk,aq3,AI,OF];rfl
      .simp only[bt,By,ayk,ayf,aq3,AI,OF];rfl
     .simp only[he,OF,By,ayf,ayi];rfl
def V4(N:aB)(hl:N.runs.length<=maxLen/\∀y∈N.runs,y.Ok):kG [N.pv]=U (prt 2 (jP N.runs N.stops.length N.ak.length)):=by
 have hm:=ax;simp only[kG,tO,CD,DO,DP,DQ,DR,DS,DT,DU,DV,DW,ab,te];generalize hl':N.runs=l at hl⊢;unfold jP;by_cases kh:l.length>1024
 .rw[BY ah,BY kh];rfl
 .rw[IT ah,IT kh];have hR:U (prt 2 (cg (nX l N.stops.length N.ak.length) l.length))=if(cg (nX l N.stops.length N.ak.length) l.length).2=0 then U (r3 0 0 0)else U (r3 2 (cg (nX l N.stops.length N.ak.length) l.length).1 (cg (nX l N.stops.length N.ak.length) l.length).2):=by unfold prt;grind
  rw[hR,<-sn (nX l N.stops.length N.ak.length) l.length (λi e=>r3 2 i e)];refine aC (λk=>(l.map aW.pv,(l.length:Int),(k:Int),N.stops.map Stop.pv,N.ak.map aD.pv,l.map aW.pv,N.aA.map aK.pv,N.paths.map Path.pv,N.aF.map bd.pv,N.aZ,N.within,N.cap,0,0,0,seen YG ((l.map cr).take k),())) l.length _ (λk hk rec=>abq N l hl k hk rec) (λrec=>?_) ?_ rfl
  .unfold jU;dsimp only;rw[IT ae];rfl
  .have:=aP;omega
def abr(N:aB)(l:List aW)(hl:l.length<=maxLen)(i:Nat)(hi:i<l.length):cD.run zj ((i:Int),0,N.stops.map Stop.pv,N.ak.map aD.pv,l.map aW.pv,N.aA.map aK.pv,N.paths.map Path.pv,N.aF.map bd.pv,N.aZ,N.within,N.cap,.int .i64 l[i].bg,.int .i64 l[i].day,.int .i64 l[i].inst,.str l[i].id,.int .i64 l[i].bn,.bool l[i].free,.bool l[i].xr,.rs 5 (l[i].calls.map ar.pv),())=if cr l[i]∈(l.map cr).take i then U (.int .i64 6)else U (.int .i64 0):=by
 have hm:=ax;refine(dG (λk=>((i:Int),(k:Int),N.stops.map Stop.pv,N.ak.map aD.pv,l.map aW.pv,N.aA.map aK.pv,N.paths.map Path.pv,N.aF.map bd.pv,N.aZ,N.within,N.cap,PV.int .i64 l[i].bg,PV.int .i64 l[i].day,PV.int .i64 l[i].inst,PV.str l[i].id,PV.int .i64 l[i].bn,PV.bool l[i].free,PV.bool l[i].xr,PV.rs 5 (l[i].calls.map ar.pv),())) i (λk=>O ((l.map cr)[k]?=U (cr l[i]))) (no:=U (.int .i64 6)) (fin:=U (.int .i64 0)) (λk hk rec=>?_) (λrec=>?_) ?_ rfl).trans ?_
 .have h1:O ((k:Int)<(i:Int))=true:=ah
  have mq:k<l.length:=aa
  have hd:O ((l.map cr)[k]?=U (cr l[i]))=(O (l[k].id=l[i].id)&&O (l[k].day=l[i].day)&&O (l[k].inst=l[i].inst)):=by rw[ayo];simp[ta mq,cr,aAr]
  rw[hd];unfold zj;dsimp only;rw[BY h1,af,AT,ta mq];simp only[IN,ab,F9,MG,QG,asInt,bU,By,ag (aa:k<9223372036854775807),bW,bh]
 .simp[zj,IT]
 .have:=aP;omega
 .rw[jR _ _ ah];simp_all
def alC(N:aB)(hl:N.runs.length<=maxLen/\∀y∈N.runs,y.Ok)(k:Nat)(hk:k<N.runs.length):B0 [N.pv,.int .i64 k]=U (.int .i64 (nX N.runs N.stops.length N.ak.length k)):=by
 have hm:=ax;have hO:=hl.2 _ (alx hk);simp only[B0,MT,CD,DO,DP,DQ,DR,DS,DT,DU,DV,DW,ab];generalize hl':N.runs=l at hl hk hO⊢;have hO':l[k].Ok:=aa
 have hid:=E7 l[k].id hO'.id;have fO:=MQ l[k].calls N.stops.length 0 3155932800 hO'.calls.1;have nJ:=abr N l hl.1 k hk;simp only[asInt,By,ab,af,AT,ta hk,IN,JV,F9,MG,QG,X7,aa5,aa6,DN,bU,asBool,aJ,te,hid,fO,Q0,aG,dQ,nJ];unfold nX;grind
def nx(p:List aK)(v:Int):Option Int:=p.foldl (λo x=>if(x.stay&&O (x.a=v))=Y then U x.b else o) Z
theorem zh(p:List aK)(x:aK)(v:Int):nx (p++[x]) v=if(x.stay&&O (x.a=v))=Y then U x.b else nx p v:=by unfold nx;simp
def it(f:Int->Option Int):Nat->Int->Option Int
 |0,v=>U v
 |m+1,v=>(f v).bind (it f m)
def adC(f:Int->Option Int)(m:Nat)(v:Int):it f (m+1) v=(it f m v).bind f:=by
 induction m generalizing v with
 |zero=>show(f v).bind (it f 0)=f v;cases h:f v<;>rfl
 |succ m ih=>
  show(f v).bind (it f (m+1))=((f v).bind (it f m)).bind f;cases h:f v with
  |none=>rfl
  |some w=>exact ih w
def pE(p:List aK)(a b:Int)(n:Nat):Bool:=(I n).any λt=>O (it (nx p) (t+1) a=U b)
def G2(f:Int->Option Int):Prop:=∃r:Int->Nat,∀v w,f v=U w->r w<r v
def QV:G2 (nx []):=⟨λ_=>0,λv w h=>by cases h⟩
variable{p:List aK}
theorem QX{v w:Int}(h:nx p v=U w):∃x∈p,x.stay=Y/\x.a=v/\x.b=w:=by
 have key:∀n,n<=p.length->nx (p.take n) v=U w->∃x∈p,x.stay=Y/\x.a=v/\x.b=w:=by
  intro n;induction n with
  |zero=>intro _ h;cases h
  |succ n ih=>
   intro hn h;have ZZ:n<p.length:=aa
   rw[awT ZZ,zh]at h;grind
 exact key p.length (ayd _) av
def QW{f:Int->Option Int}(hf:G2 f)(S:List Int)(hS:∀v w,f v=U w->v∈S):∀m v,it f m v≠Z->m<=S.length:=by
 obtain⟨r,hr⟩:=hf;induction hn:S.length generalizing S f r with
 |zero=>
  intro m v h;cases m with
  |zero=>omega
  |succ m=>
   exfalso;cases hfv:f v with
   |none=>exact h (by show(f v).bind _=Z;rw[hfv];rfl)
   |some w=>simp_all
 |succ n ih=>
  intro m v h;cases m with
  |zero=>omega
  |succ m=>
   cases hfv:f v with
   |none=>exact absurd (by show(f v).bind _=Z;rw[hfv];rfl) h
   |some w=>
    have hvS:=hS v w hfv;let g:Int->Option Int:=λx=>if x=v then Z else f x;have hg:∀x y,g x=U y->r y<r x:=λx y hxy=>ao
    have hgS:∀x y,g x=U y->x∈S.erase v:=λx y hxy=>ao
    have hlen:(S.erase v).length=n:=av
    have amR:∀k x,r x<r v->it g k x=it f k x:=by
     intro k;induction k with
     |zero=>intros;rfl
     |succ k ihk=>
      intro x hx;have hxv:x≠v:=λh=>by subst h;omega
      show(g x).bind (it g k)=(f x).bind (it f k);have:g x=f x:=by simp[g,hxv]
      rw[this];cases hfx:f x with
      |none=>rfl
      |some y=>grind
    have hw:it f m w≠none:=by simp_all[it]
    have:=ih (S.erase v) hgS r hg hlen m w av;omega
theorem V5(hp:G2 (nx p)){m:Nat}(hm:p.length<m)(v:Int):it (nx p) m v=none:=by
 cases h:it (nx p) m v with
 |none=>rfl
 |some w=>have:=QW hp (p.map aK.a) (λx y hxy=>by grind [QX]) m v av;grind
def N9(hp:G2 (nx p))(x:aK)(h:x.stay=J\/(x.a≠x.b/\nx p x.a=Z/\pE p x.b x.a (p.length+1)=J)):G2 (nx (p++[x])):=by
 cases hs:x.stay with
 |false=>obtain⟨r,hr⟩:=hp;refine⟨r,λv w hvw=>hr v w ?_⟩;simp_all[zh,azL,IT]
 |true=>
  rw[hs]at h;rcases h with h|⟨xH,hna,axD⟩
  .cases h
  have Ta:=hp;obtain⟨r,hr⟩:=hp;have JN:∀t,it (nx p) (t+1) x.b≠U x.a:=by grind [pE,List.any_eq_false,V5]
  let R:Int->Prop:=λv=>∃t,it (nx p) t v=U x.a;have hRb:¬R x.b:=λ⟨t,ht⟩=>by
   cases t with
   |zero=>simp_all[it]
   |succ t=>exact JN t ht
  refine⟨λv=>open Classical in if R v then r v+r x.b+1 else r v,λv w hvw=>?_⟩;rw[zh,hs,ayS]at hvw;by_cases hv:x.a=v
  .rw[BY (by simpa using hv)]at hvw;simp only[tc]at hvw;subst hvw;have hRv:R v:=⟨0,by show U v=U x.a;rw[hv]⟩;grind
  .rw[IT (by simpa using hv)]at hvw;have bX:=hr v w hvw;show(open Classical in if R w then r w+r x.b+1 else r w)<(open Classical in if R v then r v+r x.b+1 else r v);by_cases hw:R w
   .have hRv:R v:=by obtain⟨t,ht⟩:=hw;exact⟨t+1,by simp_all[nx,it]⟩
    simp_all
   .rw[IT hw];by_cases hRv:R v
    .rw[BY hRv];omega
    simp_all
def B1(a:Int):PV:=.int .i64 a
def dx(x:aK):Int×Int×Int×Int:=(x.a,x.ac,x.b,x.bc)
def YH(x:Int×Int×Int×Int):PV:=.agg [.int .i64 x.1,.int .i64 x.2.1,.int .i64 x.2.2.1,.int .i64 x.2.2.2]
def aiI(a b:Int×Int×Int×Int):cz (YH a).cells (YH b).cells=O (a=b):=by obtain⟨a1,a2,a3,a4⟩:=a;obtain⟨b1,b2,b3,b4⟩:=b;rw[ayo];simp[YH,PV.cells,cz,peq]
def Jq(p:List aK):List (Int×PV):=p.foldl (λm x=>if x.stay=Y then Lq x.a (.int .i64 x.b) m else m) []
def J4(p:List aK)(x:aK):Jq (p++[x])=if x.stay=Y then Lq x.a (.int .i64 x.b) (Jq p)else Jq p:=by unfold Jq;simp
def afx(a:Int)(m:List (Int×PV)):Bool:=m.any λx=>O (a=x.1)
def adD(a:Int):∀m,pL (B1 a) (FW B1 m)=afx a m
 |[]=>rfl
 |(b,u)::r=>by have:=adD a r;simp only[FW]at this;simp only[FW,ayb,pL,afx,aAS];rw[this];have:cz (B1 a).cells (B1 b).cells=O (a=b):=II a b;rw[this];rfl
def YI(a b:Int)(v:PV):∀m,afx a (Lq b v m)=(O (a=b)||afx a m)
 |[]=>bm
 |(c,u)::r=>by
  have:=YI a b v r;simp only[afx]at this⊢;by_cases h:b=c
  .subst h;simp[Lq]
  .simp only[Lq,h,OF,aAS,this];grind
def Hf{A:Type}{P:List A->Prop}(h0:P [])(h1:∀p x,P p->P (p++[x]))(l:List A):P l:=by
 have key:∀n,n<=l.length->P (l.take n):=by
  intro n;induction n with
  |zero=>simp_all
  |succ n ih=>grind [List.take_succ_eq_append_getElem]
 have:=key l.length (ayd _);simp_all
def afy(p:List aK)(v:Int):Hg v (.int .i64 0) (Jq p)=.int .i64 ((nx p v).getD 0):=by
 induction p using Hf with
 |h0=>rfl
 |h1 p x ih=>
  rw[J4,zh];cases hs:x.stay with
  |false=>simp_all
  |true=>rw[BY rfl,MU,ayS];grind
def aiJ(p:List aK)(v:Int):afx v (Jq p)=(nx p v).isSome:=by
 induction p using Hf with
 |h0=>rfl
 |h1 p x ih=>
  rw[J4,zh];cases hs:x.stay with
  |false=>simp_all
  |true=>rw[BY rfl,YI,ayS];grind
def xt(p:List aK):List (PV×PV):=FW B1 (Jq p)
def J5(p:List aK)(v:Int):eY (.int .i64 v) (.int .i64 0) (xt p)=.int .i64 ((nx p v).getD 0):=by have:=Rc (key:=B1) II v (.int .i64 0) (Jq p);rw[afy]at this;exact this
def MV(p:List aK)(v:Int):pL (.int .i64 v) (xt p)=(nx p v).isSome:=by have:=adD v (Jq p);rw[aiJ]at this;exact this
def abt(p:List aK)(x:aK):xt (p++[x])=if x.stay=Y then eu (.int .i64 x.a) (.int .i64 x.b) (xt p)else xt p:=by
 have:=V6 (key:=B1) II x.a (.int .i64 x.b) (Jq p);unfold xt;rw[J4];by_cases h:x.stay=Y
 .rw[BY h,BY h];exact this.symm
 simp_all
def pT(p:List aK):List Int:=(p.filter aK.stay).map aK.b
def abu(p:List aK)(x:aK):pT (p++[x])=if x.stay=Y then pT p++[x.b]else pT p:=by grind [pT]
theorem T5(p:List aK)(v:Int):(nx p v).isSome=p.any λy=>y.stay&&O (y.a=v):=by
 induction p using Hf with
 |h0=>rfl
 |h1 p x ih=>rw[zh,aA5,<-ih];grind
theorem Yt(p:List aK)(v:Int):O (v∈pT p)=p.any λy=>y.stay&&O (y.b=v):=by rw[ayo,tb];simp only[pT,tb,ayl,ayr,azE,T1];grind
def aow(f:Int->Option Int)(a b:Int)(t:Nat):Option (Option PV):=(it f (t+1) a).elim (U (U (.bool J))) λv=>if v=b then U (U (.bool Y))else Z
def abv(f:Int->Option Int)(b:Int)(n:Nat):∀a,it f (n+1) a=Z->bN ((I n).findSome? (aow f a b)) (U (.bool J))=U (.bool ((I (n+1)).any λt=>O (it f (t+1) a=U b))):=by
 induction n with
 |zero=>intro a h;simp[bN,h]
 |succ n ih=>
  intro a h;rw[azB (n:=n+1),azB (n:=n),ay5,aAS];have h0:it f (0+1) a=f a:=by show(f a).bind (it f 0)=f a;cases hf:f a<;>rfl
  unfold aow;rw[h0];cases hf:f a with
  |none=>
   have hz:∀t,it f (t+1) a=none:=λt=>by show(f a).bind _=Z;rw[hf];rfl
   simp_all[Option.elim,bN,List.any_map,azS]
  |some v=>
   have hs:∀t,it f (t+1+1) a=it f (t+1) v:=λt=>by show(f a).bind _=_;rw[hf];rfl
   by_cases hv:v=b
   .simp_all[Option.elim,By,bN,ayk,aBa]
   .have hd:O (U v=U b)=false:=by simpa using hv
    simp only[Option.elim,IT hv,hd,azY];have:=ih v (by rw[<-hs];omega);rw[List.findSome?_map,List.any_map];simp only[azS,Nat.succ_eq_add_one,hs];rw[<-azB];exact this
def abw(p:List aK)(hp:G2 (nx p))(hl:p.length<=maxLen)(a b:Int):qE [.rm 3 ((xt p).map λx=>x.fst) ((xt p).map λx=>x.snd),.int .i64 a,.int .i64 b]=U (.bool (pE p a b (p.length+1))):=by
 have hz:((xt p).map λx=>x.fst).zip ((xt p).map λx=>x.snd)=xt p:=by
  generalize xt p=m;induction m with
  |nil=>rfl
  |cons x m ih=>simp_all
 simp only[qE,CW,dX,By,asInt,ab,hz,J5,MV];unfold pE;rw[<-abv (nx p) b p.length a (V5 hp aa a)];refine aC (λt=>(PV.rm 3 ((xt p).map λx=>x.fst) ((xt p).map λx=>x.snd),b,(it (nx p) (t+1) a).getD 0,(it (nx p) (t+1) a).isSome,())) p.length _ (λt ht rec=>?_) (λrec=>?_) nN ?_
 .unfold oO aow;dsimp only;rw[adC (nx p) (t+1) a];cases hv:it (nx p) (t+1) a with
  |none=>rfl
  |some v=>
   simp only[aAh,ayy,By,bW,tb,Option.elim];by_cases hvb:v=b
   .rw[BY hvb,BY hvb];rfl
   .rw[IT hvb,IT hvb];simp only[dX,By,hz,J5,MV,asInt,ab,bN,ayg]
 .unfold oO;dsimp only;rw[V5 hp aa];rfl
 .show(_,b,(it (nx p) 1 a).getD 0,(it (nx p) 1 a).isSome,())=_;have:it (nx p) 1 a=nx p a:=by show(nx p a).bind _=_;cases nx p a<;>rfl
  rw[this]
def aV(runs:List aW)(a:Int):List ar:=((runs[a.toNat]?).map aW.calls).getD []
def gC(cs:List ar)(c:Int):Int:=((cs[c.toNat]?).map ar.stop).getD 0
def G3(x:aK)(R:Int):Bool:= !(O (x.a>=0)&&O (x.a<R))|| !(O (x.b>=0)&&O (x.b<R))||decide (x.a=x.b)
def FV(x:aK)(A B:Int):Bool:= !(O (x.ac>=0)&&O (x.ac<A))|| !(O (x.bc>=0)&&O (x.bc<B))
def Ay(p:List aK)(x:aK)(A:Int):Bool:=x.stay&&(!decide (x.ac+1=A)|| !decide (x.bc=0)||(nx p x.a).isSome||decide (x.b∈pT p)||pE p x.b x.a (p.length+1))
def dM(runs:List aW)(l:List aK)(k:Nat):Int:=match l[k]? with
 |none=>0
 |some x=>if G3 x runs.length=Y then 9 else if FV x (aV runs x.a).length (aV runs x.b).length=Y then 9 else if gC (aV runs x.a) x.ac≠gC (aV runs x.b) x.bc then 13 else if Ay (l.take k) x (aV runs x.a).length=Y then 19 else if dx x∈(l.map dx).take k then 6 else 0
def ll(runs:List aW)(l:List aK):Int×Int:=if l.length>1024 then(0,5)else cg (dM runs l) l.length
def Re(runs:List aW)(l:List aK)(k:Nat)(hk:k<=l.length)(h:∀j,j<k->dM runs l j=0):G2 (nx (l.take k))/\∀x∈l.take k,0<=x.a:=by
 induction k with
 |zero=>simp[aAb,QV]
 |succ k ih=>
  have mq:k<l.length:=aa
  obtain⟨h1,h2⟩:=ih aa λj hj=>h j aa;have hz:=h k aa;unfold dM at hz;rw[ta mq]at hz;simp only at hz;have hr:G3 l[k] runs.length=false:=ao
  have hs:Ay (l.take k) l[k] (aV runs l[k].a).length=false:=ao
  unfold G3 at hr;simp only[ayp,aza,T1,tb,ayv]at hr;rw[awT mq];refine⟨N9 h1 l[k] ?_,λx hx=>?_⟩
  .unfold Ay at hs;cases fL:l[k].stay with
   |false=>simp
   |true=>simp_all
  grind
def Lr(runs:List aW)(a:Int)(h:0<=a/\a<(runs.length:Int)):∃r∈runs,uW (runs.map aW.pv) a=U r.pv/\aV runs a=r.calls:=by
 obtain⟨n,rfl⟩:=azX h.1;have hn:n<runs.length:=aa
 refine⟨runs[n],alx hn,?_,?_⟩
 .rw[af,AT,ta hn];rfl
 .unfold aV;simp_all
def IJ(cs:List ar)(c:Int)(h:0<=c/\c<(cs.length:Int)):∃r,uW (cs.map ar.pv) c=U r/\cell r 0=.int .i64 (gC cs c):=by
 obtain⟨n,rfl⟩:=azX h.1;have hn:n<cs.length:=aa
 refine⟨cs[n].pv,?_,?_⟩
 .rw[af,AT,ta hn];rfl
 .unfold gC;rw[anj,ta hn];rfl
def Hh{runs:List aW}(h:∀y∈runs,y.Ok)(a:Int):(aV runs a).length<=maxLen:=by
 unfold aV;cases hr:runs[a.toNat]? with
 |none=>simp
 |some r=>exact(h r (awU hr)).calls.1
def YJ(N:aB)(runs:List aW)(hr:∀y∈runs,y.Ok)(l:List aK)(hl:l.length<=maxLen)(k:Nat)(hk:k<l.length)(Mw:∀j,j<k->dM runs l j=0)(rec:TY0->Option PV):jl (l.map aK.pv,(l.length:Int),(k:Int),N.stops.map Stop.pv,N.ak.map aD.pv,runs.map aW.pv,l.map aK.pv,N.paths.map Path.pv,N.aF.map bd.pv,N.aZ,N.within,N.cap,0,0,0,xt (l.take k),seen B1 (pT (l.take k)),seen YH ((l.map dx).take k),()) rec=bN (if dM runs l k=0 then Z else U (U (r3 3 k (dM runs l k)))) (rec (l.map aK.pv,(l.length:Int),((k+1:Nat):Int),N.stops.map Stop.pv,N.ak.map aD.pv,runs.map aW.pv,l.map aK.pv,N.paths.map Path.pv,N.aF.map bd.pv,N.aZ,N.within,N.cap,0,0,0,xt (l.take (k+1)),seen B1 (pT (l.take (k+1))),seen YH ((l.map dx).take (k+1)),())):=by
 have hm:=ax;have h1:O ((k:Int)<(l.length:Int))=true:=ah
 have⟨asr,_⟩:=Re runs l k aa Mw;have hlen:(l.take k).length=k:=ah
 have Rf:=abw (l.take k) asr aa l[k].b l[k].a;have qX:eu (.agg [.int .i64 l[k].a,.int .i64 l[k].ac,.int .i64 l[k].b,.int .i64 l[k].bc]) (.bool Y) (seen YH ((l.map dx).take k))=_:=hZ aiI (dx l[k]) ((l.map dx).take k);have nh:eY (.agg [.int .i64 l[k].a,.int .i64 l[k].ac,.int .i64 l[k].b,.int .i64 l[k].bc]) (.bool J) (seen YH ((l.map dx).take k))=_:=fT aiI (dx l[k]) ((l.map dx).take k);have ass:eu (.int .i64 l[k].b) (.bool Y) (seen B1 (pT (l.take k)))=_:=hZ (key:=B1) II l[k].b (pT (l.take k));have aox:eY (.int .i64 l[k].b) (.bool J) (seen B1 (pT (l.take k)))=_:=fT (key:=B1) II l[k].b (pT (l.take k));have hsn:l.take (k+1)=l.take k++[l[k]]:=awT hk;unfold jl;dsimp only;rw[BY h1,af,AT,ta hk,hsn,abt,abu,my dx l k hk];simp only[IN,ab,Q7,Yz,link2,YA,Ub,asInt,asBool,By,te,J3,aG,bW];unfold dM;rw[ta hk];simp only;have hR:(!(O (l[k].a>=0)&&O (l[k].a<(runs.length:Int)))|| !(O (l[k].b>=0)&&O (l[k].b<(runs.length:Int)))||decide (l[k].a=l[k].b))=G3 l[k] runs.length:=rfl;rw[hR];cases hb:G3 l[k] runs.length with
 |true=>rfl
 |false=>
  unfold G3 at hb;simp only[ayp,aza,T1,tb,ayv]at hb;have⟨ra,hra,hia,hca⟩:=Lr runs l[k].a ⟨hb.1.1.1,hb.1.1.2⟩;have⟨rb,hrb,hib,hcb⟩:=Lr runs l[k].b ⟨hb.1.2.1,hb.1.2.2⟩;have hA:=Hh hr l[k].a;rw[hia,hib];simp only[ab,DN,aJ,By,te,<-hca,<-hcb,J3,asBool,aG];have hC:(!(O (l[k].ac>=0)&&O (l[k].ac<((aV runs l[k].a).length:Int)))|| !(O (l[k].bc>=0)&&O (l[k].bc<((aV runs l[k].b).length:Int))))=FV l[k] (aV runs l[k].a).length (aV runs l[k].b).length:=rfl;rw[hC];cases Qy:FV l[k] (aV runs l[k].a).length (aV runs l[k].b).length with
  |true=>rfl
  |false=>
   unfold FV at Qy;simp only[ayp,aza,T1,tb]at Qy;have⟨ka,hka,hsa⟩:=IJ (aV runs l[k].a) l[k].ac Qy.1;have⟨kb,hkb,hsb⟩:=IJ (aV runs l[k].b) l[k].bc Qy.2;have hw:C .i64 (l[k].ac+1)=l[k].ac+1:=bJ aa aa;simp only[AI,OF,hka,hkb,ab,hsa,hsb,J5,MV,nh,aox,qX,ass,asInt,asBool,By,Rf,hw,hlen,aG,bh,dQ,YC,r3A,r30,r31,r32,ag (aa:k<9223372036854775807)];have hS:(l[k].stay&&(!decide (l[k].ac+1=((aV runs l[k].a).length:Int))|| !decide (l[k].bc=0)||(nx (l.take k) l[k].a).isSome||decide (l[k].b∈pT (l.take k))||pE (l.take k) l[k].b l[k].a (k+1)))=Ay (l.take k) l[k] (aV runs l[k].a).length:=by unfold Ay;rw[hlen]
   rw[hS];generalize Ay (l.take k) l[k] (aV runs l[k].a).length=S;by_cases fL:gC (aV runs l[k].a) l[k].ac=gC (aV runs l[k].b) l[k].bc
   .simp only[fL,ayk,aq3,AI,OF,aBg,aAU];cases S with
    |true=>rfl
    |false=>
     by_cases bt:dx l[k]∈(l.map dx).take k
     .simp only[bt,ayk,By,AI,OF];rfl
     .simp only[bt,ayf,By,AI,OF];cases l[k].stay<;>rfl
   .simp only[fL,ayf,ayi,By,aBg,not_false_eq_true];rfl
def SC(N:aB)(hr:N.runs.length<=maxLen/\∀y∈N.runs,y.Ok)(hl:N.aA.length<=maxLen):gD [N.pv]=U (prt 3 (ll N.runs N.aA)):=by
 have hm:=ax;simp only[gD,rC,CD,DO,DP,DQ,DR,DS,DT,DU,DV,DW,ab,te];generalize hl':N.aA=l at hl⊢;generalize Gi:N.runs=runs at hr⊢;unfold ll;by_cases kh:l.length>1024
 .rw[BY ah,BY kh];rfl
 .rw[IT ah,IT kh];have hR:U (prt 3 (cg (dM runs l) l.length))=if(cg (dM runs l) l.length).2=0 then U (r3 0 0 0)else U (r3 3 (cg (dM runs l) l.length).1 (cg (dM runs l) l.length).2):=by unfold prt;grind
  rw[hR,<-sn (dM runs l) l.length (λi e=>r3 3 i e)];refine CU (λk=>(l.map aK.pv,(l.length:Int),(k:Int),N.stops.map Stop.pv,N.ak.map aD.pv,runs.map aW.pv,l.map aK.pv,N.paths.map Path.pv,N.aF.map bd.pv,N.aZ,N.within,N.cap,0,0,0,xt (l.take k),seen B1 (pT (l.take k)),seen YH ((l.map dx).take k),())) l.length _ (λk hk Mw rec=>YJ N runs hr.2 l hl k hk (λj hj=>?_) rec) (λ_ rec=>?_) nN rfl
  .simp_all
  .unfold jl;dsimp only;rw[IT ae];rfl
def afz(N:aB)(i:Nat)(hi:i<N.aA.length)(hl:N.aA.length<=maxLen)(hp:∀x∈N.aA.take i,0<=x.a)(a b:Int)(hb:0<=b):wh [N.pv,.int .i64 i,.int .i64 a,.int .i64 b]=U (.bool (pE (N.aA.take i) a b (i+1))):=by
 have hm:=ax;simp only[wh,Hi,CD,DO,DP,DQ,DR,DS,DT,DU,DV,DW,ab];simp only[asInt,By,ab];generalize hl':N.aA=l at hl hi hp⊢;have afA:nx (l.take i) (-1)=none:=by
  cases hn:nx (l.take i) (-1)with
  |none=>rfl
  |some w=>grind [QX]
 have wX:∀t,(nx (l.take i) ((it (nx (l.take i)) t a).getD (-1))).getD (-1)=(it (nx (l.take i)) (t+1) a).getD (-1):=by
  intro t;rw[adC];cases it (nx (l.take i)) t a with
  |none=>simp_all
  |some v=>rfl
 have nJ:∀(c:Int)(t:Nat)iO,cD.run (tP iO) ((i:Int),c,b,(t:Int),-1,0,N.stops.map Stop.pv,N.ak.map aD.pv,N.runs.map aW.pv,l.map aK.pv,N.paths.map Path.pv,N.aF.map bd.pv,N.aZ,N.within,N.cap,())=if(nx (l.take i) c).getD (-1)=b then U (.bool Y)else iO ((i:Int),(nx (l.take i) c).getD (-1),b,C .i64 ((t:Int)+1),N.stops.map Stop.pv,N.ak.map aD.pv,N.runs.map aW.pv,l.map aK.pv,N.paths.map Path.pv,N.aF.map bd.pv,N.aZ,N.within,N.cap,()):=by
  intro c t iO;refine aM (λk=>((i:Int),c,b,(t:Int),(nx (l.take k) c).getD (-1),(k:Int),N.stops.map Stop.pv,N.ak.map aD.pv,N.runs.map aW.pv,l.map aK.pv,N.paths.map Path.pv,N.aF.map bd.pv,N.aZ,N.within,N.cap,())) i (λk hk rec=>?_) (λrec=>?_) nN bm
  .have h1:O ((k:Int)<(i:Int))=true:=ah
   have mq:k<l.length:=aa
   unfold tP;dsimp only;rw[BY h1,af,AT,ta mq,awT mq,zh];simp only[IN,ab,Q7,link2,Ub,asInt,asBool,By,bh,bW,ag (aa:k<9223372036854775807)];grind
  simp[tP,IT,bW,tb]
 unfold pE;have xM:cD.run (tQ cD) ((i:Int),a,b,0,N.stops.map Stop.pv,N.ak.map aD.pv,N.runs.map aW.pv,l.map aK.pv,N.paths.map Path.pv,N.aF.map bd.pv,N.aZ,N.within,N.cap,())=if((I (i+1)).any λt=>O (it (nx (l.take i)) (t+1) a=U b))=Y then U (PV.bool Y)else U (PV.bool J):=by
  refine dG (λt:Nat=>((i:Int),(it (nx (l.take i)) t a).getD (-1),b,(t:Int),N.stops.map Stop.pv,N.ak.map aD.pv,N.runs.map aW.pv,l.map aK.pv,N.paths.map Path.pv,N.aF.map bd.pv,N.aZ,N.within,N.cap,())) (i+1) (λt=>O (it (nx (l.take i)) (t+1) a=U b)) (no:=U (PV.bool Y)) (fin:=U (PV.bool J)) (λt ht rec=>?_) (λrec=>?_) nN rfl
  .have h1:O ((t:Int)<=(i:Int))=true:=ah
   unfold tQ;dsimp only;rw[BY h1,nJ,wX,ag aa];cases hv:it (nx (l.take i)) (t+1) a with
   |none=>grind
   |some v=>simp
  .unfold tQ;grind
 grind
def afB(l:List aK)(P:aK->Bool)(k:Nat)(hk:k<=l.length):((I k).any λj=>(l[j]?).elim J P)=(l.take k).any P:=by
 induction k with
 |zero=>rfl
 |succ k ih=>
  have mq:k<l.length:=aa
  rw[ayP,aA5,ih aa,awT mq,aA5];simp_all
def aiK(N:aB)(hr:N.runs.length<=maxLen/\∀y∈N.runs,y.Ok)(hl:N.aA.length<=maxLen)(k:Nat)(hk:k<N.aA.length)(Mw:∀j,j<k->dM N.runs N.aA j=0):zk [N.pv,.int .i64 k]=U (.int .i64 (dM N.runs N.aA k)):=by
 have hm:=ax;have⟨_,fa⟩:=Re N.runs N.aA k aa Mw;have Rf:=λa b hb=>afz N k hk hl fa a b hb;have hE:=MR N;simp only[zk,J6,CD,DO,DP,DQ,DR,DS,DT,DU,DV,DW,ab];rw[<-MR N]at Rf;generalize hl':N.aA=l at hl hk fa Rf⊢;generalize Gi:N.runs=runs at hr Rf⊢;have hw0:C .i64 ((runs.length:Int)-1)=(runs.length:Int)-1:=bJ aa aa;simp only[asInt,By,ab,af,AT,ta hk,IN,Q7,Yz,link2,YA,Ub,asBool,te,hw0,Q0,aG,bW];unfold dM;rw[ta hk];simp only;have hR:(!(O (l[k].a>=0)&&O (l[k].a<=(runs.length:Int)-1))|| !(O (l[k].b>=0)&&O (l[k].b<=(runs.length:Int)-1))||decide (l[k].a=l[k].b))=G3 l[k] runs.length:=by unfold G3;grind
 rw[hR];cases hb:G3 l[k] runs.length with
 |true=>rfl
 |false=>
  unfold G3 at hb;simp only[ayp,aza,T1,tb,ayv]at hb;have⟨ra,hra,hia,hca⟩:=Lr runs l[k].a ⟨hb.1.1.1,hb.1.1.2⟩;have⟨rb,hrb,hib,hcb⟩:=Lr runs l[k].b ⟨hb.1.2.1,hb.1.2.2⟩;have hA:=Hh hr.2 l[k].a;have hB:=Hh hr.2 l[k].b;rw[hia,hib];simp only[ab,DN,aJ,By,te,<-hca,<-hcb];have hwA:C .i64 (((aV runs l[k].a).length:Int)-1)=((aV runs l[k].a).length:Int)-1:=bJ aa aa;have hwB:C .i64 (((aV runs l[k].b).length:Int)-1)=((aV runs l[k].b).length:Int)-1:=bJ aa aa;simp only[hwA,hwB,Q0,asBool,ab,aG];have hC:(!(O (l[k].ac>=0)&&O (l[k].ac<=((aV runs l[k].a).length:Int)-1))|| !(O (l[k].bc>=0)&&O (l[k].bc<=((aV runs l[k].b).length:Int)-1)))=FV l[k] (aV runs l[k].a).length (aV runs l[k].b).length:=by unfold FV;grind
  rw[hC];cases Qy:FV l[k] (aV runs l[k].a).length (aV runs l[k].b).length with
  |true=>rfl
  |false=>
   unfold FV at Qy;simp only[ayp,aza,T1,tb]at Qy;have⟨ka,hka,hsa⟩:=IJ (aV runs l[k].a) l[k].ac Qy.1;have⟨kb,hkb,hsb⟩:=IJ (aV runs l[k].b) l[k].bc Qy.2;simp only[AI,OF,hka,hkb,ab,hsa,hsb,asInt,asBool,By,aG,bh,dQ];by_cases fL:gC (aV runs l[k].a) l[k].ac=gC (aV runs l[k].b) l[k].bc
   .simp only[fL,ayk,aq3,AI,OF,aBg,aAU];have Og:cD.run wj ((k:Int),0,N.stops.map Stop.pv,N.ak.map aD.pv,runs.map aW.pv,l.map aK.pv,N.paths.map Path.pv,N.aF.map bd.pv,N.aZ,N.within,N.cap,.int .i64 l[k].a,.int .i64 l[k].ac,.int .i64 l[k].b,.int .i64 l[k].bc,.bool l[k].stay,())=if dx l[k]∈(l.map dx).take k then U (.int .i64 6)else U (.int .i64 0):=by
     refine(dG (λj=>((k:Int),(j:Int),N.stops.map Stop.pv,N.ak.map aD.pv,runs.map aW.pv,l.map aK.pv,N.paths.map Path.pv,N.aF.map bd.pv,N.aZ,N.within,N.cap,PV.int .i64 l[k].a,PV.int .i64 l[k].ac,PV.int .i64 l[k].b,PV.int .i64 l[k].bc,PV.bool l[k].stay,())) k (λj=>O ((l.map dx)[j]?=U (dx l[k]))) (no:=U (.int .i64 6)) (fin:=U (.int .i64 0)) (λj hj rec=>?_) (λrec=>?_) nN rfl).trans ?_
     .have h1:O ((j:Int)<(k:Int))=true:=ah
      have W3:j<l.length:=aa
      have hd:O ((l.map dx)[j]?=U (dx l[k]))=(O (l[j].a=l[k].a)&&O (l[j].ac=l[k].ac)&&O (l[j].b=l[k].b)&&O (l[j].bc=l[k].bc)):=by rw[ayo];simp[ta W3,dx,aAr]
      rw[hd];unfold wj;dsimp only;rw[BY h1,af,AT,ta W3];simp only[IN,ab,Q7,Yz,link2,YA,asInt,By,ag (aa:j<9223372036854775807),bW,bh]
     .simp[wj,IT]
     .rw[jR _ _ ah];simp_all
    have aaO:cD.run (wk cD) ((k:Int),0,N.stops.map Stop.pv,N.ak.map aD.pv,runs.map aW.pv,l.map aK.pv,N.paths.map Path.pv,N.aF.map bd.pv,N.aZ,N.within,N.cap,.int .i64 l[k].a,.int .i64 l[k].ac,.int .i64 l[k].b,.int .i64 l[k].bc,.bool l[k].stay,())=if(l[k].stay&&((nx (l.take k) l[k].a).isSome||decide (l[k].b∈pT (l.take k))))=Y then U (.int .i64 19)else if(l[k].stay&&pE (l.take k) l[k].b l[k].a (k+1))=Y then U (.int .i64 19)else if dx l[k]∈(l.map dx).take k then U (.int .i64 6)else U (.int .i64 0):=by
     refine(dG (λj=>((k:Int),(j:Int),N.stops.map Stop.pv,N.ak.map aD.pv,runs.map aW.pv,l.map aK.pv,N.paths.map Path.pv,N.aF.map bd.pv,N.aZ,N.within,N.cap,PV.int .i64 l[k].a,PV.int .i64 l[k].ac,PV.int .i64 l[k].b,PV.int .i64 l[k].bc,PV.bool l[k].stay,())) k (λj=>(l[j]?).elim J λy=>l[k].stay&&y.stay&&(O (y.a=l[k].a)||decide (y.b=l[k].b))) (no:=U (.int .i64 19)) (fin:=if(l[k].stay&&pE (l.take k) l[k].b l[k].a (k+1))=Y then U (.int .i64 19)else if dx l[k]∈(l.map dx).take k then U (.int .i64 6)else U (.int .i64 0)) (λj hj rec=>?_) (λrec=>?_) nN rfl).trans ?_
     .have h1:O ((j:Int)<(k:Int))=true:=ah
      have W3:j<l.length:=aa
      rw[ta W3];unfold wk;dsimp only;rw[BY h1,af,AT,ta W3];simp only[IN,ab,Q7,link2,Ub,asInt,asBool,By,ag (aa:j<9223372036854775807),bW,bh,aG,Option.elim];rfl
     .unfold wk;simp_all[IT,asBool,asInt,By,ab,bh]
     .rw[afB l _ k aa];have ak3:((l.take k).any λy=>l[k].stay&&y.stay&&(O (y.a=l[k].a)||decide (y.b=l[k].b)))=(l[k].stay&&((nx (l.take k) l[k].a).isSome||decide (l[k].b∈pT (l.take k)))):=by
       rw[T5,Yt];cases l[k].stay with
       |false=>simp
       |true=>rw[ayo];simp only[ayS,ayj,azE,T1,tb];grind
      rw[ak3]
    rw[aaO];have hlen:(l.take k).length=k:=ah
    have hac:O (l[k].ac=((aV runs l[k].a).length:Int)-1)=O (l[k].ac+1=((aV runs l[k].a).length:Int)):=ao
    rw[hac];unfold Ay;grind
   simp_all
def dZ(N:aB):Int×Int×Int:=
 if(gk N.stops).2=0 then
  if(eC N.ak).2=0 then
   if(jP N.runs N.stops.length N.ak.length).2=0 then
    if(ll N.runs N.aA).2=0 then
     if(dp N.paths N.stops.length).2=0 then if(du N.aF N.aZ N.within N.cap).2=0 then(0,0,0)else(5,du N.aF N.aZ N.within N.cap)
     else(4,dp N.paths N.stops.length)
    else(3,ll N.runs N.aA)
   else(2,jP N.runs N.stops.length N.ak.length)
  else(1,eC N.ak)
 else(0,gk N.stops)
def lO(x:Int×Int×Int):PV:=.b8 [.int .i64 x.1,.int .i64 x.2.1,.int .i64 x.2.2]
def r3E(p i e:Int):PV.agg [cell (r3 p i e) 0,cell (r3 p i e) 1,cell (r3 p i e) 2]=r3 p i e:=rfl
def r3F(p i e:Int):PV.agg [.int .i64 p,.int .i64 i,.int .i64 e]=r3 p i e:=rfl
def Hj(p i e q j f:Int):mA [.rs 3 [r3 p i e,r3 q j f]]=U (if e=0 then(if f=0 then r3 0 0 0 else r3 q j f)else r3 p i e):=by
 simp only[mA,CX,aJ,By,ab];have h0:=aC (body:=oQ) (λk=>([r3 p i e,r3 q j f],(2:Int),(k:Int),0,0,0,())) 2 (λk=>if k=0 then(if e=0 then Z else U (U (r3 p i e)))else(if f=0 then Z else U (U (r3 q j f)))) (fin:=U (r3 0 0 0)) (λk hk rec=>?_) (λrec=>?_) bj (s0:=([r3 p i e,r3 q j f],(2:Int),0,0,0,0,())) rfl
 .refine h0.trans ?_;have:I 2=[0,1]:=rfl;grind [bN]
 .have h2:k=0\/k=1:=aa
  rcases h2 with rfl|rfl
  .unfold oQ;dsimp only;rw[BY ae,af];simp only[ayR,ab,r32,asInt,By,dQ,r3E,ag (aa:0<9223372036854775807)];by_cases he:e=0
   .simp only[he,ayk,aq3,AI,OF,By];rfl
   .simp only[he,ayf,ayi,OF,By];rfl
  .unfold oQ;dsimp only;rw[BY ae,af];simp only[azV,ayR,ab,r32,asInt,By,dQ,r3E,ag (aa:1<9223372036854775807)];by_cases he:f=0
   .simp only[he,ayk,aq3,AI,OF,By];rfl
   .simp only[he,ayf,ayi,OF,By];rfl
 rfl
def abx(p:Int)(x:Int×Int):prt p x=if x.2=0 then r3 0 0 0 else r3 p x.1 x.2:=rfl
theorem DX{l:List Stop}(h:(gk l).2=0):l.length<=64:=by unfold gk at h;grind
def Rg(a b:Int):(a==b)=O (a=b):=bW a b
def aby(N:aB)(h:N.Ok)(hp:N.paths.length<=8192):qF [N.pv]=U (lO (dZ N)):=by
 have hs:=Ua N.stops h.stops;have hr:=Q3 N.ak h.ak;have hu:=V4 N h.runs;have hl:=SC N h.runs h.aA.1;have hf:=Q4 N.aF N.aZ N.within N.cap h.aF;unfold zi at hf;simp only[qF,CY,CD,DO,DP,DQ,DR,DS,DT,DU,DV,DW,ab,MR];simp only[hs,hr,hf,hu,hl,ab,res,bY,al6,are,Nat.reduceAdd,By,Uz,WK,YC,r3A,r3F,Hj];unfold dZ;by_cases h1:(gk N.stops).2=0
 .have hpa:=SB N (DX h1) hp;simp only[hpa,ab,h1,By];by_cases h2:(eC N.ak).2=0
  .simp only[h2,By];rw[abx 2,abx 3,abx 4];by_cases h3:(jP N.runs N.stops.length N.ak.length).2=0
   .simp only[h3,By];by_cases h4:(ll N.runs N.aA).2=0
    .simp only[h4,By];by_cases h5:(dp N.paths N.stops.length).2=0
     .simp only[h5,By];by_cases h6:(du N.aF N.aZ N.within N.cap).2=0
      .simp only[h6,By,r3A,r3F,r30,r31,r32,asInt,ab,Hj,Rg,ayk,ayf,AI,lO]
      .simp only[h6,By,OF,r3A,r3F,r30,r31,r32,asInt,ab,Hj,Rg,ayk,ayf,AI,lO]
     .simp only[h5,By,OF,r3A,r3F,r30,r31,r32,asInt,ab,Hj,Rg,ayk,ayf,AI,lO]
    .simp only[h4,By,OF,r3A,r3F,r30,r31,r32,asInt,ab,Hj,Rg,ayk,ayf,AI,lO]
   .simp only[h3,By,OF,r3A,r3F,r30,r31,r32,asInt,ab,Hj,Rg,ayk,ayf,AI,lO]
  .simp only[h2,By,OF,r3A,r3F,r30,r31,r32,asInt,ab,Hj,Rg,ayk,ayf,AI,lO]
 .simp only[h1,By,OF,r3A,r3F,r30,r31,r32,asInt,ab,Hj,Rg,ayk,ayf,AI,lO]
def V7(N:aB)(h:N.Ok)(hn:N.stops.length<=64)(hp:N.paths.length<=8192):cD.run tR (0,N.stops.map Stop.pv,N.ak.map aD.pv,N.runs.map aW.pv,N.aA.map aK.pv,N.paths.map Path.pv,N.aF.map bd.pv,N.aZ,N.within,N.cap,())=U (lO (if(cg (dM N.runs N.aA) N.aA.length).2=0 then
  if(dp N.paths N.stops.length).2=0 then if(du N.aF N.aZ N.within N.cap).2=0 then(0,0,0)else(5,du N.aF N.aZ N.within N.cap)
  else(4,dp N.paths N.stops.length)
 else(3,cg (dM N.runs N.aA) N.aA.length))):=by
 have hm:=ax
 have Tx:=h.aA.1
 have hpa:=afw N hn hp
 have hf:=afu N.aF N.aZ N.within N.cap h.aF
 unfold zi at hf
 have hg:=sn (dM N.runs N.aA) N.aA.length (λi e=>lO (3,i,e)) (U (lO (if(dp N.paths N.stops.length).2=0 then if(du N.aF N.aZ N.within N.cap).2=0 then(0,0,0)else(5,du N.aF N.aZ N.within N.cap)else(4,dp N.paths N.stops.length))))
 have hR:(if(cg (dM N.runs N.aA) N.aA.length).2=0 then(U (lO (if(dp N.paths N.stops.length).2=0 then if(du N.aF N.aZ N.within N.cap).2=0 then(0,0,0)else(5,du N.aF N.aZ N.within N.cap)else(4,dp N.paths N.stops.length))))else U (lO (3,(cg (dM N.runs N.aA) N.aA.length).1,(cg (dM N.runs N.aA) N.aA.length).2)))=U (lO (if(cg (dM N.runs N.aA) N.aA.length).2=0 then
   if(dp N.paths N.stops.length).2=0 then if(du N.aF N.aZ N.within N.cap).2=0 then(0,0,0)else(5,du N.aF N.aZ N.within N.cap)
   else(4,dp N.paths N.stops.length)
  else(3,cg (dM N.runs N.aA) N.aA.length))):=by
  grind
 rw[<-hR,<-hg]
 refine CU (λk=>((k:Int),N.stops.map Stop.pv,N.ak.map aD.pv,N.runs.map aW.pv,N.aA.map aK.pv,N.paths.map Path.pv,N.aF.map bd.pv,N.aZ,N.within,N.cap,())) N.aA.length _ (λk hk Mw rec=>?_) (λ_ rec=>?_) nN rfl
 .have ast:∀j,j<k->dM N.runs N.aA j=0:=λj hj=>av
  have Vl:=aiK N h.runs Tx k hk ast;have h1:O ((k:Int)<((N.aA.map aK.pv).length:Int))=true:=ah
  unfold tR;dsimp only;rw[BY h1,MR,Vl];simp only[ab,asInt,By,dQ,ag (aa:k<9223372036854775807)];by_cases he:dM N.runs N.aA k=0
  .simp only[he,ayk,aq3,AI,OF,By];rfl
  .simp only[he,ayf,ayi,OF,By];rfl
 .unfold tR;dsimp only;rw[IT ae,MR,hpa];simp only[ab,res,bY,al6,are,Nat.reduceAdd,By,Uz,WK,asInt,dQ,hf];by_cases h5:(dp N.paths N.stops.length).2=0
  .simp only[h5,ayk,aq3,AI,OF,By];by_cases h6:(du N.aF N.aZ N.within N.cap).2=0
   .simp_all[ayk,aq3,AI,OF,By,lO]
   simp_all[ayf,ayi,AI,OF,By,lO]
  simp_all[ayf,ayi,AI,OF,By,lO]
def afC(N:aB)(h:N.Ok)(hp:N.paths.length<=8192):wm [N.pv]=U (lO (dZ N)):=by
 have hm:=ax;have dC:8192<=maxLen:=bj
 have hs:=afs N.stops h.stops;have hr:=abo N.ak h.ak;simp only[wm,Hk,CD,DO,DP,DQ,DR,DS,DT,DU,DV,DW,ab];simp only[hs,hr,ab,res,bY,al6,are,Nat.reduceAdd,By,Uz,WK,asInt,dQ];unfold dZ;by_cases h1:(gk N.stops).2=0
 .have vR:=V7 N h (DX h1) hp;simp only[h1,ayk,aq3,AI,OF,By];by_cases h2:(eC N.ak).2=0
  .simp only[h2,ayk,aq3,AI,OF,By];unfold jP;by_cases kh:N.runs.length>1024
   .rw[BY ah,BY kh];rfl
   .rw[IT ah,IT kh];generalize hE:nX N.runs N.stops.length N.ak.length=E;generalize hF:(if(ll N.runs N.aA).2=0 then
     if(dp N.paths N.stops.length).2=0 then if(du N.aF N.aZ N.within N.cap).2=0 then((0:Int),(0:Int),(0:Int))else(5,du N.aF N.aZ N.within N.cap)
     else(4,dp N.paths N.stops.length)
    else(3,ll N.runs N.aA))=F
    have hg:=sn E N.runs.length (λi e=>lO (2,i,e)) (U (lO F));have hR:(if(cg E N.runs.length).2=0 then U (lO F)else U (lO (2,(cg E N.runs.length).1,(cg E N.runs.length).2)))=U (lO (if(cg E N.runs.length).2=0 then F else(2,cg E N.runs.length))):=ao
    rw[<-hR,<-hg];refine aC (λk=>((k:Int),N.stops.map Stop.pv,N.ak.map aD.pv,N.runs.map aW.pv,N.aA.map aK.pv,N.paths.map Path.pv,N.aF.map bd.pv,N.aZ,N.within,N.cap,())) N.runs.length _ (λk hk rec=>?_) (λrec=>?_) nN rfl
    .have UX:=alC N h.runs k hk;rw[hE]at UX;have h1:O ((k:Int)<((N.runs.map aW.pv).length:Int))=true:=ah
     unfold AO;dsimp only;rw[BY h1,MR,UX];simp only[ab,asInt,By,dQ,ag (aa:k<9223372036854775807)];by_cases he:E k=0
     .simp only[he,ayk,aq3,AI,OF,By];rfl
     .simp only[he,ayf,ayi,OF,By];rfl
    .unfold AO;dsimp only;rw[IT ae,<-hF];unfold ll;by_cases h10:N.aA.length>1024
     .rw[BY ah,BY h10];rfl
     grind
  simp_all[ayf,ayi,AI,OF,By,lO]
 simp_all[ayf,ayi,AI,OF,By,lO]
def abz{N:aB}(h:(dZ N).2.2=0):∀k,k<N.runs.length->nX N.runs N.stops.length N.ak.length k=0:=by
 unfold dZ at h;by_cases h1:(gk N.stops).2=0
 .rw[BY h1]at h;by_cases h2:(eC N.ak).2=0
  .rw[BY h2]at h;by_cases h3:(jP N.runs N.stops.length N.ak.length).2=0
   .unfold jP at h3;by_cases kh:N.runs.length>1024
    .simp_all
    simp_all[IT,kn]
   simp_all
  simp_all
 simp_all
def Oh{N:aB}(h:(dZ N).2.2=0):∀r∈N.runs,(bP r.calls N.stops.length 0 3155932800).2=0:=by intro r hr;obtain⟨k,hk,rfl⟩:=azZ hr;have:=abz h k hk;unfold nX at this;grind
theorem Oi{l:List ar}{n a b:Int}(h:(bP l n a b).2=0):2<=l.length/\l.length<=32:=by unfold bP at h;grind
theorem Oj{l:List ar}{n a b:Int}(h:(bP l n a b).2=0):∀k,k<l.length->ng l n a b k=0:=by
 unfold bP at h;by_cases hc:(O ((l.length:Int)<2)||decide ((l.length:Int)>32))=Y
 .simp_all
 simp_all[IT,kn]
def AP{c:ar}{p:Option ar}{n a b:Int}(h:lN c p n a b=0):c.arr<=c.dep/\a<=c.arr/\c.dep<=b/\∀q,p=U q->q.dep<=c.arr:=by unfold lN at h;grind
def Stop.peq(x y:Stop):cz [cell x.pv 0,cell x.pv 1,cell x.pv 2,cell x.pv 3] [cell y.pv 0,cell y.pv 1,cell y.pv 2,cell y.pv 3]=O (x=y):=by cases x;cases y;rw[ayo];simp[cell,Stop.pv,PV.cells,cz,Ab.peq]
def aD.peq(x y:aD):cz [cell x.pv 0,cell x.pv 1,cell x.pv 2] [cell y.pv 0,cell y.pv 1,cell y.pv 2]=O (x=y):=by cases x;cases y;rw[ayo];simp[cell,aD.pv,PV.cells,cz,Ab.peq]
def ar.peq(x y:ar):cz [cell x.pv 0,cell x.pv 1,cell x.pv 2,cell x.pv 3,cell x.pv 4] [cell y.pv 0,cell y.pv 1,cell y.pv 2,cell y.pv 3,cell y.pv 4]=O (x=y):=by cases x;cases y;rw[ayo];simp[cell,ar.pv,PV.cells,cz,Ab.peq]
def aK.peq(x y:aK):cz [cell x.pv 0,cell x.pv 1,cell x.pv 2,cell x.pv 3,cell x.pv 4] [cell y.pv 0,cell y.pv 1,cell y.pv 2,cell y.pv 3,cell y.pv 4]=O (x=y):=by cases x;cases y;rw[ayo];simp[cell,aK.pv,PV.cells,cz,Ab.peq]
def Path.peq(x y:Path):cz [cell x.pv 0,cell x.pv 1,cell x.pv 2,cell x.pv 3] [cell y.pv 0,cell y.pv 1,cell y.pv 2,cell y.pv 3]=O (x=y):=by cases x;cases y;rw[ayo];simp[cell,Path.pv,PV.cells,cz,Ab.peq]
def bd.peq(x y:bd):cz [cell x.pv 0,cell x.pv 1,cell x.pv 2,cell x.pv 3,cell x.pv 4,cell x.pv 5] [cell y.pv 0,cell y.pv 1,cell y.pv 2,cell y.pv 3,cell y.pv 4,cell y.pv 5]=O (x=y):=by cases x;cases y;rw[ayo];simp[cell,bd.pv,PV.cells,cz,Ab.peq]
def BV{a b:Nat}:((a:Int) !=(b:Int))= !decide (a=b):=ao
def VF{c:Prop}[Decidable c]:(if c then U (PV.bool Y)else U (PV.bool J))=U (PV.bool (O c)):=ao
def V8(a b:List ar)(ha:a.length<=maxLen):nj [.rs 5 (a.map ar.pv),.rs 5 (b.map ar.pv)]=U (.bool (O (a=b))):=by
 have hm:=ax;simp only[nj,yj,aJ,By,ab,te];by_cases h:a.length=b.length
 .rw[IT (by rw[BV];simp[h])];refine(aC (λk=>(a.map ar.pv,b.map ar.pv,(k:Int),())) a.length (λk=>if a[k]?=b[k]? then Z else U (U (PV.bool J))) (λk hk rec=>?_) (fin:=U (PV.bool Y)) (λrec=>?_) nN rfl).trans ?_
  .have h1:O ((k:Int)<(a.length:Int))=true:=ah
   have mq:k<b.length:=aa
   unfold rD;dsimp only;try simp only[te]
   rw[BY h1,af,af,AT,AT,ta hk,ta mq];simp only[IN,ab];rw[BY ⟨rfl,rfl⟩,ar.peq,ag aa];grind [bN]
  .simp[rD,IT]
  .exact(vW a b h (U (PV.bool J)) (U (PV.bool Y))).trans VF
 .rw[BY (by rw[BV];simp[h])];have:a≠b:=λe=>h (by rw[e]);simp[this]
def Hl(l:List bd)(d w c:Int):PV:=.agg [.rs 6 (l.map bd.pv),.int .i64 d,.int .i64 w,.int .i64 c]
def zl(a b:List bd)(d1 w1 c1 d2 w2 c2:Int)(ha:a.length<=maxLen):nk [Hl a d1 w1 c1,Hl b d2 w2 c2]=U (.bool (O (d1=d2)&&O (w1=w2)&&O (c1=c2)&&O (a=b))):=by
 have hm:=ax;have f0:∀l d w c,asAgg 4 (Hl l d w c)=U ():=λ_ _ _ _=>rfl;have f1:∀l d w c,cell (Hl l d w c) 0=.rs 6 (l.map bd.pv):=λ_ _ _ _=>rfl;have f2:∀l d w c,cell (Hl l d w c) 1=.int .i64 d:=λ_ _ _ _=>rfl;have f3:∀l d w c,cell (Hl l d w c) 2=.int .i64 w:=λ_ _ _ _=>rfl;have f4:∀l d w c,cell (Hl l d w c) 3=.int .i64 c:=λ_ _ _ _=>rfl;simp only[nk,yn,f0,f1,f2,f3,f4,aJ,asInt,By,ab,te,BV,dQ,aG];by_cases h:a.length=b.length
 .by_cases e1:d1=d2
  .by_cases e2:w1=w2
   .by_cases e3:c1=c2
    .rw[IT (by simp[h,e1,e2,e3])];simp only[e1,e2,e3,ayk,ayS];refine(aC (λk=>((k:Int),a.map bd.pv,d2,w2,c2,b.map bd.pv,d2,w2,c2,())) a.length (λk=>if a[k]?=b[k]? then Z else U (U (PV.bool J))) (λk hk rec=>?_) (fin:=U (PV.bool Y)) (λrec=>?_) nN rfl).trans ?_
     .have h1:O ((k:Int)<(a.length:Int))=true:=ah
      have mq:k<b.length:=aa
      unfold rE;dsimp only;try simp only[te]
      rw[BY h1,af,af,AT,AT,ta hk,ta mq];simp only[IN,ab];rw[BY ⟨rfl,rfl⟩,bd.peq,ag aa];grind [bN]
     .simp[rE,IT]
     .exact(vW a b h (U (PV.bool J)) (U (PV.bool Y))).trans VF
    simp_all
   simp_all
  simp_all
 .rw[BY ao];have:a≠b:=λe=>h (by rw[e]);simp[this]
def adl(x y:aW):O (x=y)=(O (x.bg=y.bg)&&O (x.day=y.day)&&O (x.inst=y.inst)&&O (x.id=y.id)&&O (x.bn=y.bn)&&O (x.free=y.free)&&O (x.xr=y.xr)&&O (x.calls=y.calls)):=by cases x;cases y;grind
def xm(a b:List aW)(ha:a.length<=maxLen)(hc:∀x∈a,x.calls.length<=maxLen):lv [.rs 8 (a.map aW.pv),.rs 8 (b.map aW.pv)]=U (.bool (O (a=b))):=by
 have hm:=ax;simp only[lv,AQ,aJ,By,ab,te];by_cases h:a.length=b.length
 .rw[IT (by rw[BV];simp[h])];refine(aC (λk=>(a.map aW.pv,b.map aW.pv,(k:Int),())) a.length (λk=>if a[k]?=b[k]? then Z else U (U (PV.bool J))) (λk hk rec=>?_) (fin:=U (PV.bool Y)) (λrec=>?_) nN rfl).trans ?_
  .have h1:O ((k:Int)<(a.length:Int))=true:=ah
   have mq:k<b.length:=aa
   have fO:=V8 a[k].calls b[k].calls (hc _ (alx hk));unfold tS;dsimp only;rw[te,BY h1,af,af,AT,AT,ta hk,ta mq];simp only[IN,ab,JV,F9,MG,QG,X7,aa5,aa6,DN,asInt,bU,asBool,aJ,By,fO,aG,dQ,bW,ag (aa:k<9223372036854775807)];have hd:=adl a[k] b[k];by_cases he:a[k]=b[k]
   .simp[he,bN]
   .rw[BY,IT (by simpa using he)]
    .rfl
    grind
  .simp[tS,IT]
  .exact(vW a b h (U (PV.bool J)) (U (PV.bool Y))).trans VF
 .rw[BY (by rw[BV];simp[h])];have:a≠b:=λe=>h (by rw[e]);simp[this]
def eqN(A B:aB):Bool:=O (A.stops=B.stops)&&O (A.ak=B.ak)&&O (A.aA=B.aA)&&O (A.paths=B.paths)&&O (A.runs=B.runs)&&(O (A.aZ=B.aZ)&&O (A.within=B.within)&&O (A.cap=B.cap)&&O (A.aF=B.aF))
def Yg(A:aB):eqN A A=true:=by simp[eqN]
def abA(A B:aB):Bool:=O (A.runs=B.runs)&&(O (A.aZ=B.aZ)&&O (A.within=B.within)&&O (A.cap=B.cap)&&O (A.aF=B.aF))
def afD(A B:aB)(hA:A.Ok)(h:A.paths.length=B.paths.length):cD.run (lx) (0,A.stops.map Stop.pv,A.ak.map aD.pv,A.runs.map aW.pv,A.aA.map aK.pv,A.paths.map Path.pv,A.aF.map bd.pv,A.aZ,A.within,A.cap,B.stops.map Stop.pv,B.ak.map aD.pv,B.runs.map aW.pv,B.aA.map aK.pv,B.paths.map Path.pv,B.aF.map bd.pv,B.aZ,B.within,B.cap,())=if A.paths=B.paths then U (.bool (abA A B))else U (.bool J):=by
 have hm:=ax;have hl:=hA.paths.1;have e1:=xm A.runs B.runs hA.runs.1 (λx hx=>(hA.runs.2 x hx).calls.1);have e2:=zl A.aF B.aF A.aZ A.within A.cap B.aZ B.within B.cap hA.aF.1;unfold Hl at e2;generalize JS:(U (.bool (abA A B)):Option PV)=fin;generalize ha:A.paths=a at h hl⊢;generalize hb:B.paths=b at h⊢;refine(aC (λk=>((k:Int),A.stops.map Stop.pv,A.ak.map aD.pv,A.runs.map aW.pv,A.aA.map aK.pv,a.map Path.pv,A.aF.map bd.pv,A.aZ,A.within,A.cap,B.stops.map Stop.pv,B.ak.map aD.pv,B.runs.map aW.pv,B.aA.map aK.pv,b.map Path.pv,B.aF.map bd.pv,B.aZ,B.within,B.cap,())) a.length (λk=>if a[k]?=b[k]? then Z else U (U (PV.bool J))) (λk hk rec=>?_) (fin:=fin) (λrec=>?_) nN rfl).trans ?_
 .have h1:O ((k:Int)<(a.length:Int))=true:=ah
  have mq:k<b.length:=aa
  unfold lx;dsimp only;try simp only[te]
  rw[BY h1,af,af,AT,AT,ta hk,ta mq];simp only[IN,ab];rw[BY ⟨rfl,rfl⟩,Path.peq,ag aa];grind [bN]
 .subst ha;subst hb;rw[<-JS];unfold lx;dsimp only;rw[IT ae];simp only[e1,e2,ab,asBool,bh];rfl
 .exact vW a b h _ _
def afE(A B:aB)(hA:A.Ok)(h:A.aA.length=B.aA.length):cD.run (ly cD) (0,A.stops.map Stop.pv,A.ak.map aD.pv,A.runs.map aW.pv,A.aA.map aK.pv,A.paths.map Path.pv,A.aF.map bd.pv,A.aZ,A.within,A.cap,B.stops.map Stop.pv,B.ak.map aD.pv,B.runs.map aW.pv,B.aA.map aK.pv,B.paths.map Path.pv,B.aF.map bd.pv,B.aZ,B.within,B.cap,())=if A.aA=B.aA then cD.run (lx) (0,A.stops.map Stop.pv,A.ak.map aD.pv,A.runs.map aW.pv,A.aA.map aK.pv,A.paths.map Path.pv,A.aF.map bd.pv,A.aZ,A.within,A.cap,B.stops.map Stop.pv,B.ak.map aD.pv,B.runs.map aW.pv,B.aA.map aK.pv,B.paths.map Path.pv,B.aF.map bd.pv,B.aZ,B.within,B.cap,())else U (.bool J):=by
 have hm:=ax;have hl:=hA.aA.1;have e1:=xm A.runs B.runs hA.runs.1 (λx hx=>(hA.runs.2 x hx).calls.1);have e2:=zl A.aF B.aF A.aZ A.within A.cap B.aZ B.within B.cap hA.aF.1;unfold Hl at e2;generalize JS:(cD.run (lx) (0,A.stops.map Stop.pv,A.ak.map aD.pv,A.runs.map aW.pv,A.aA.map aK.pv,A.paths.map Path.pv,A.aF.map bd.pv,A.aZ,A.within,A.cap,B.stops.map Stop.pv,B.ak.map aD.pv,B.runs.map aW.pv,B.aA.map aK.pv,B.paths.map Path.pv,B.aF.map bd.pv,B.aZ,B.within,B.cap,()):Option PV)=fin;generalize ha:A.aA=a at h hl⊢;generalize hb:B.aA=b at h⊢;refine(aC (λk=>((k:Int),A.stops.map Stop.pv,A.ak.map aD.pv,A.runs.map aW.pv,a.map aK.pv,A.paths.map Path.pv,A.aF.map bd.pv,A.aZ,A.within,A.cap,B.stops.map Stop.pv,B.ak.map aD.pv,B.runs.map aW.pv,b.map aK.pv,B.paths.map Path.pv,B.aF.map bd.pv,B.aZ,B.within,B.cap,())) a.length (λk=>if a[k]?=b[k]? then Z else U (U (PV.bool J))) (λk hk rec=>?_) (fin:=fin) (λrec=>?_) nN rfl).trans ?_
 .have h1:O ((k:Int)<(a.length:Int))=true:=ah
  have mq:k<b.length:=aa
  unfold ly;dsimp only;try simp only[te]
  rw[BY h1,af,af,AT,AT,ta hk,ta mq];simp only[IN,ab];rw[BY ⟨rfl,rfl⟩,aK.peq,ag aa];grind [bN]
 .simp_all[ly,IT]
 .exact vW a b h _ _
def afF(A B:aB)(hA:A.Ok)(h:A.ak.length=B.ak.length):cD.run (lz cD) (0,A.stops.map Stop.pv,A.ak.map aD.pv,A.runs.map aW.pv,A.aA.map aK.pv,A.paths.map Path.pv,A.aF.map bd.pv,A.aZ,A.within,A.cap,B.stops.map Stop.pv,B.ak.map aD.pv,B.runs.map aW.pv,B.aA.map aK.pv,B.paths.map Path.pv,B.aF.map bd.pv,B.aZ,B.within,B.cap,())=if A.ak=B.ak then cD.run (ly cD) (0,A.stops.map Stop.pv,A.ak.map aD.pv,A.runs.map aW.pv,A.aA.map aK.pv,A.paths.map Path.pv,A.aF.map bd.pv,A.aZ,A.within,A.cap,B.stops.map Stop.pv,B.ak.map aD.pv,B.runs.map aW.pv,B.aA.map aK.pv,B.paths.map Path.pv,B.aF.map bd.pv,B.aZ,B.within,B.cap,())else U (.bool J):=by
 have hm:=ax;have hl:=hA.ak.1;have e1:=xm A.runs B.runs hA.runs.1 (λx hx=>(hA.runs.2 x hx).calls.1);have e2:=zl A.aF B.aF A.aZ A.within A.cap B.aZ B.within B.cap hA.aF.1;unfold Hl at e2;generalize JS:(cD.run (ly cD) (0,A.stops.map Stop.pv,A.ak.map aD.pv,A.runs.map aW.pv,A.aA.map aK.pv,A.paths.map Path.pv,A.aF.map bd.pv,A.aZ,A.within,A.cap,B.stops.map Stop.pv,B.ak.map aD.pv,B.runs.map aW.pv,B.aA.map aK.pv,B.paths.map Path.pv,B.aF.map bd.pv,B.aZ,B.within,B.cap,()):Option PV)=fin;generalize ha:A.ak=a at h hl⊢;generalize hb:B.ak=b at h⊢;refine(aC (λk=>((k:Int),A.stops.map Stop.pv,a.map aD.pv,A.runs.map aW.pv,A.aA.map aK.pv,A.paths.map Path.pv,A.aF.map bd.pv,A.aZ,A.within,A.cap,B.stops.map Stop.pv,b.map aD.pv,B.runs.map aW.pv,B.aA.map aK.pv,B.paths.map Path.pv,B.aF.map bd.pv,B.aZ,B.within,B.cap,())) a.length (λk=>if a[k]?=b[k]? then Z else U (U (PV.bool J))) (λk hk rec=>?_) (fin:=fin) (λrec=>?_) nN rfl).trans ?_
 .have h1:O ((k:Int)<(a.length:Int))=true:=ah
  have mq:k<b.length:=aa
  unfold lz;dsimp only;try simp only[te]
  rw[BY h1,af,af,AT,AT,ta hk,ta mq];simp only[IN,ab];rw[BY ⟨rfl,rfl⟩,aD.peq,ag aa];grind [bN]
 .simp_all[lz,IT]
 .exact vW a b h _ _
def afG(A B:aB)(hA:A.Ok)(h:A.stops.length=B.stops.length):cD.run (tT cD) (0,A.stops.map Stop.pv,A.ak.map aD.pv,A.runs.map aW.pv,A.aA.map aK.pv,A.paths.map Path.pv,A.aF.map bd.pv,A.aZ,A.within,A.cap,B.stops.map Stop.pv,B.ak.map aD.pv,B.runs.map aW.pv,B.aA.map aK.pv,B.paths.map Path.pv,B.aF.map bd.pv,B.aZ,B.within,B.cap,())=if A.stops=B.stops then cD.run (lz cD) (0,A.stops.map Stop.pv,A.ak.map aD.pv,A.runs.map aW.pv,A.aA.map aK.pv,A.paths.map Path.pv,A.aF.map bd.pv,A.aZ,A.within,A.cap,B.stops.map Stop.pv,B.ak.map aD.pv,B.runs.map aW.pv,B.aA.map aK.pv,B.paths.map Path.pv,B.aF.map bd.pv,B.aZ,B.within,B.cap,())else U (.bool J):=by
 have hm:=ax;have hl:=hA.stops.1;have e1:=xm A.runs B.runs hA.runs.1 (λx hx=>(hA.runs.2 x hx).calls.1);have e2:=zl A.aF B.aF A.aZ A.within A.cap B.aZ B.within B.cap hA.aF.1;unfold Hl at e2;generalize JS:(cD.run (lz cD) (0,A.stops.map Stop.pv,A.ak.map aD.pv,A.runs.map aW.pv,A.aA.map aK.pv,A.paths.map Path.pv,A.aF.map bd.pv,A.aZ,A.within,A.cap,B.stops.map Stop.pv,B.ak.map aD.pv,B.runs.map aW.pv,B.aA.map aK.pv,B.paths.map Path.pv,B.aF.map bd.pv,B.aZ,B.within,B.cap,()):Option PV)=fin;generalize ha:A.stops=a at h hl⊢;generalize hb:B.stops=b at h⊢;refine(aC (λk=>((k:Int),a.map Stop.pv,A.ak.map aD.pv,A.runs.map aW.pv,A.aA.map aK.pv,A.paths.map Path.pv,A.aF.map bd.pv,A.aZ,A.within,A.cap,b.map Stop.pv,B.ak.map aD.pv,B.runs.map aW.pv,B.aA.map aK.pv,B.paths.map Path.pv,B.aF.map bd.pv,B.aZ,B.within,B.cap,())) a.length (λk=>if a[k]?=b[k]? then Z else U (U (PV.bool J))) (λk hk rec=>?_) (fin:=fin) (λrec=>?_) nN rfl).trans ?_
 .have h1:O ((k:Int)<(a.length:Int))=true:=ah
  have mq:k<b.length:=aa
  unfold tT;dsimp only;try simp only[te]
  rw[BY h1,af,af,AT,AT,ta hk,ta mq];simp only[IN,ab];rw[BY ⟨rfl,rfl⟩,Stop.peq,ag aa];grind [bN]
 .simp_all[tT,IT]
 .exact vW a b h _ _
def TW(A B:aB)(hA:A.Ok):pW [A.pv,B.pv]=U (.bool (eqN A B)):=by
 simp only[pW,Hm,CD,DO,DP,DQ,DR,DS,DT,DU,DV,DW,ab,aG,te,BV];unfold eqN;by_cases h1:A.stops.length=B.stops.length
 .by_cases h2:A.ak.length=B.ak.length
  .by_cases h3:A.aA.length=B.aA.length
   .by_cases h4:A.paths.length=B.paths.length
    .rw[IT (by simp[h1,h2,h3,h4]),afG A B hA h1,afF A B hA h2,afE A B hA h3,afD A B hA h4];unfold abA;grind
    .rw[BY (by simp[h4])];have:A.paths≠B.paths:=λe=>h4 (by rw[e]);simp[this]
   .rw[BY (by simp[h3])];have:A.aA≠B.aA:=λe=>h3 (by rw[e]);simp[this]
  .rw[BY (by simp[h2])];have:A.ak≠B.ak:=λe=>h2 (by rw[e]);simp[this]
 .rw[BY (by simp[h1])];have:A.stops≠B.stops:=λe=>h1 (by rw[e]);simp[this]
def cU(es:List PV)(n:Nat)(h:es.length<=10000)(hn:0<n)(hn2:n<=1000):(([]:List PV)++es).length*n<=au/\0<n:=by refine⟨?_,hn⟩;rw[azg];have:es.length*n<=10000*1000:=azM h hn2;unfold au;omega
def rF(es:List PV):List.take (((([]:List PV)++es).length:Int).toNat) (([]:List PV)++es)=es:=ae
def QN(es:List PV)(h:es.length<=10000):eP [.rs 4 es]=U (.rs 4 es):=by simp only[eP,q9,aJ,By,ab];rw[BY (cU es 40 h aa aa),BY ⟨aa,aa,aa,trivial⟩,rF]
def N6(es:List PV)(h:es.length<=10000):ey [.rs 3 es]=U (.rs 3 es):=by simp only[ey,pA,aJ,By,ab];rw[BY (cU es 32 h aa aa),BY ⟨aa,aa,aa,trivial⟩,rF]
def TX(es:List PV)(h:es.length<=10000):fv [.rs 8 es]=U (.rs 8 es):=by simp only[fv,sS,aJ,By,ab];rw[BY (cU es 80 h aa aa),BY ⟨aa,aa,aa,trivial⟩,rF]
def QO(es:List PV)(h:es.length<=10000):eQ [.rs 5 es]=U (.rs 5 es):=by simp only[eQ,q8,aJ,By,ab];rw[BY (cU es 40 h aa aa),BY ⟨aa,aa,aa,trivial⟩,rF]
def GW(es:List PV)(h:es.length<=10000):dA [.rs 4 es]=U (.rs 4 es):=by simp only[dA,lZ,aJ,By,ab];rw[BY (cU es 32 h aa aa),BY ⟨aa,aa,aa,trivial⟩,rF]
def QP(es:List PV)(h:es.length<=10000):eR [.rs 5 es]=U (.rs 5 es):=by simp only[eR,q7,aJ,By,ab];rw[BY (cU es 32 h aa aa),BY ⟨aa,aa,aa,trivial⟩,rF]
def Jo(es:List PV)(h:es.length<=10000):dL [.rs 6 es]=U (.rs 6 es):=by simp only[dL,mR,aJ,By,ab];rw[BY (cU es 56 h aa aa),BY ⟨aa,aa,aa,trivial⟩,rF]
variable{A:Type}
def mix(f g:A->PV)(l:List A)(k:Nat):List PV:=(l.take k).map f++(l.drop k).map g
def ady(f g:A->PV)(l:List A):mix f g l l.length=l.map f:=by simp[mix]
def adE(f g:A->PV)(l:List A)(k:Nat):(mix f g l k).length=l.length:=by simp[mix];omega
def adx(f g:A->PV)(l:List A)(k:Nat)(h:k<l.length):(mix f g l k)[k]?=U (g l[k]):=by unfold mix;grind
def adw(f g:A->PV)(l:List A)(k:Nat)(h:k<l.length):(mix f g l k).set k (f l[k])=mix f g l (k+1):=by
 apply ayI;intro j;rw[ayO];unfold mix;by_cases hj:k=j
 .grind
 grind
def gg(f g:A->PV)(l:List A)(k:Nat)(h:k<l.length)(p:PV):((mix f g l k).set k p)[k]?=U p:=by rw[ayO,BY rfl,BY (by rw[adE];omega)]
def VL(f g:A->PV)(l:List A)(k:Nat)(h:k<l.length):aU (k:Int) (mix f g l k).length:=by rw[adE];exact⟨aa,aa⟩
def aW.vO(x:aW):PV:=.agg [.int .i64 x.bg,.int .i64 x.day,.int .i64 x.inst,.str x.id,.int .i64 x.bn,.bool x.free,.bool x.xr,.lJ 5 (x.calls.map ar.pv)]
def rz(l:List aW):(l.map aW.vO).map PV.strip=l.map aW.pv:=by rw[azI];rfl
end Go.Ab.Tt
