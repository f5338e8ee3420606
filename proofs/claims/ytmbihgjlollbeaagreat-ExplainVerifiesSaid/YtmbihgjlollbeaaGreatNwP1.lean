import Derived.Test.YtmbihgjlollbeaaGreatAbLib
import Derived.Test.YtmbihgjlollbeaaGreatSh6
namespace Go.Ab.Nw
section
variable (w:Nat→Nat→Nat→Prop)
def J8:Nat→Nat→Nat→Nat→Prop
 |0,i,j,L=>w i j L
 |k+1,i,j,L=>J8 k i j L∨∃A B,J8 k i k A∧J8 k k j B∧L=A+B
inductive nH:Nat→Nat→Nat→Prop
 |MA {i j c:Nat}:w i j c→nH i j c
 |snoc {i m j A c:Nat}:nH i m A→w m j c→nH i j (A+c)
end
section
variable {w:Nat→Nat→Nat→Prop}
variable{i j L:Nat}
theorem J8.up{k:Nat}(h:J8 w k i j L):J8 w (k+1) i j L:=.inl h
theorem J8.le{k k':Nat}(hk:k≤k')(h:J8 w k i j L):J8 w k' i j L:=by
 induction hk with
 |refl=>omega
 |step _ ih=>exact ih.up
theorem HB:∀(k:Nat){m i j A B:Nat},m<k→J8 w k i m A→J8 w k m j B→∃C,C≤A+B∧J8 w k i j C
 |0,_,_,_,_,_,h,_,_=>by omega
 |k+1,m,i,j,A,B,h,ha,hb=>by
  by_cases hm:m=k
  ·subst hm;have h1:∃A',A'≤A∧J8 w m i m A':=by
    rcases ha with ha|⟨X,Y,x,y,e⟩
    ·grind
    grind
   have h2:∃B',B'≤B∧J8 w m m j B':=by
    rcases hb with hb|⟨X,Y,x,y,e⟩
    ·grind
    grind
   obtain⟨A',a1,a2⟩:=h1;obtain⟨B',b1,b2⟩:=h2;exact⟨A'+B',by omega,.inr ⟨A',B',a2,b2,rfl⟩⟩
  ·have cd:m<k:=by omega
   rcases ha with ha|⟨X,Y,x,y,e⟩
   ·rcases hb with hb|⟨X',Y',x',y',e'⟩
    ·obtain⟨C,c1,c2⟩:=HB k cd ha hb;exact⟨C,c1,.inl c2⟩
    ·obtain⟨C,c1,c2⟩:=HB k cd ha x';exact⟨C+Y',by omega,.inr ⟨C,Y',c2,y',rfl⟩⟩
   ·rcases hb with hb|⟨X',Y',x',y',e'⟩
    ·obtain⟨C,c1,c2⟩:=HB k cd y hb;exact⟨X+C,by omega,.inr ⟨X,C,x,c2,rfl⟩⟩
    ·exact⟨X+Y',by omega,.inr ⟨X,Y',x,y',rfl⟩⟩
theorem nH.join{m A B:Nat}(h1:nH w i m A)(h2:nH w m j B):nH w i j (A+B):=by
 induction h2 with
 |MA h=>exact .snoc h1 h
 |snoc _ h ih=>rw[←asW];exact .snoc ih h
theorem J8.walk:∀{k i j L:Nat},J8 w k i j L→nH w i j L
 |0,_,_,_,h=>.MA h
 |k+1,i,j,L,.inl h=>J8.walk (k:=k) h
 |k+1,i,j,L,.inr ⟨A,B,h1,h2,e⟩=>by rw[e];exact(J8.walk (k:=k) h1).join (J8.walk (k:=k) h2)
theorem nH.via{n:Nat}(hn:∀i j c,w i j c→i<n)(h:nH w i j L):∃C,C≤L∧J8 w n i j C:=by
 induction h with
 |MA h=>exact⟨_,ast _,J8.le (at7 _) (show J8 w 0 _ _ _ from h)⟩
 |snoc _ h ih=>obtain⟨C,c1,c2⟩:=ih;obtain⟨D,d1,d2⟩:=HB n (hn _ _ _ h) c2 (J8.le (at7 _) (show J8 w 0 _ _ _ from h));grind
variable{w':Nat→Nat→Nat→Prop}
theorem nH.mono(hw:∀i j c,w i j c→w' i j c)(h:nH w i j L):nH w' i j L:=by
 induction h with
 |MA h=>exact .MA (hw _ _ _ h)
 |snoc _ h ih=>exact .snoc ih (hw _ _ _ h)
theorem nH.leq(hw:∀i j c,w i j c→∃c',c'≤c∧w' i j c')(h:nH w i j L):∃L',L'≤L∧nH w' i j L':=by
 induction h with
 |MA h=>obtain⟨c',h1,h2⟩:=hw _ _ _ h;exact⟨c',h1,.MA h2⟩
 |snoc _ h ih=>obtain⟨c',h1,h2⟩:=hw _ _ _ h;obtain⟨L',l1,l2⟩:=ih;exact⟨L'+c',by omega,.snoc l2 h2⟩
def Xv(w:Nat→Nat→Nat→Prop)(i j:Nat)(o:Option Nat):Prop:=match o with
 |some L=>nH w i j L∧∀L',nH w i j L'→L≤L'
 |none=>∀L',¬nH w i j L'
theorem Xv.unique{o o':Option Nat}(h:Xv w i j o)(h':Xv w i j o'):o=o':=by
 cases o with
 |none=>cases o' with
  |none=>rfl
  |some L=>exact absurd h'.1 (h L)
 |some L=>cases o' with
  |none=>exact absurd h.1 (h' L)
  |some L'=>rw[Nat.le_antisymm (h.2 _ h'.1) (h'.2 _ h.1)]
structure Fw(w:Nat→Nat→Nat→Prop)(inf:Nat)(n:Nat)(d:Nat→Nat→Nat):Prop where
 top:∀i j,i<n→j<n→d i j≤inf
 real:∀i j,i<n→j<n→d i j<inf→nH w i j (d i j)
def xo(w:Nat→Nat→Nat→Prop)(k i j:Nat)(x:Nat):Prop:=∀L,J8 w k i j L→x≤L
variable{d:Nat→Nat→Nat}
theorem ahL{inf n k:Nat}(h:Fw w inf n d)(hi:i<n)(hj:j<n)(hk:k<n){x:Nat}(hx:x=min (d i j) (d i k+d k j)){d':Nat→Nat→Nat}(hd:∀a b,d' a b=if a=i∧b=j then x else d a b):Fw w inf n d'∧(∀a b,d' a b≤d a b)∧(xo w k i k (d i k)→xo w k k j (d k j)→xo w k i j (d i j)→xo w (k+1) i j (d' i j)):=by
 refine⟨⟨fun a b ha hb=>?_,fun a b ha hb cd=>?_⟩,fun a b=>?_,fun h1 h2 h3 L hL=>?_⟩
 ·rw[hd];split
  ·have:=h.top i j hi hj;omega
  ·exact h.top a b ha hb
 ·rw[hd]at cd⊢;split
  ·rename_i e;rw[IN e]at cd;obtain⟨rfl,rfl⟩:=e;by_cases hm:d a b≤d a k+d k b
   ·rw[show x=d a b by omega]at cd⊢;exact h.real a b ha hb cd
   ·have e2:x=d a k+d k b:=by omega
    rw[e2]at cd⊢;exact(h.real a k ha hk (by omega)).join (h.real k b hk hb (by omega))
  ·rename_i e;rw[IS e]at cd;exact h.real a b ha hb cd
 ·grind
 ·rw[hd,IN ⟨rfl,rfl⟩];rcases hL with hL|⟨A,B,a1,a2,e⟩
  ·have:=h3 _ hL;omega
  ·have:=h1 _ a1;have:=h2 _ a2;omega
theorem ahM{inf n:Nat}(hn:∀i j c,w i j c→i<n)(h:Fw w inf n d)(hi:i<n)(hj:j<n)(hb:xo w n i j (d i j))(vb:∀L,(∀L',nH w i j L'→L≤L')→nH w i j L→L<inf):Xv w i j (if d i j<inf then some (d i j)else none):=by
 have low:∀L,nH w i j L→d i j≤L:=fun L hL=>by obtain⟨C,c1,c2⟩:=hL.via hn;exact asZ (hb C c2) c1
 split
 ·rename_i cd;exact⟨h.real i j hi hj cd,low⟩
 ·rename_i Kk;intro L hL;have key:∀m,(∃L,L≤m∧nH w i j L)→∃L,nH w i j L∧∀L',nH w i j L'→L≤L':=by
   intro m;induction m with
   |zero=>grind
   |succ m ih=>
    rintro⟨L,hl,hw⟩;by_cases he:∃L,L≤m∧nH w i j L
    ·exact ih he
    grind
  obtain⟨L0,h1,h2⟩:=key L ⟨L,ast _,hL⟩;grind
end
structure Nd where
 n:Nat
 len:Nat
 e:Nat
 num:Nat
 deriving DecidableEq,Inhabited
def ND(a b:Nd):Bool:=decide (a.len<b.len∨(a.len=b.len∧(a.e<b.e∨(a.e=b.e∧a.num<b.num))))
def BK(a b:Nd):Prop:=ND b a=false
theorem Xw(a b:Nd):ND a b=true↔(a.len<b.len∨(a.len=b.len∧(a.e<b.e∨(a.e=b.e∧a.num<b.num)))):=by simp[ND]
theorem HC(a b:Nd):BK a b↔¬(b.len<a.len∨(b.len=a.len∧(b.e<a.e∨(b.e=a.e∧b.num<a.num)))):=by unfold BK;rw[←Xw];simp
theorem IV(a:Nd):BK a a:=by rw[HC];omega
theorem BL{a b c:Nd}(h:BK a b)(k:BK b c):BK a c:=by rw[HC]at*;omega
theorem DK{a b:Nd}(h:ND a b=true):BK a b:=by grind [HC,Xw]
theorem aei{a b:Nd}(h:BK a b):a.len≤b.len:=by rw[HC]at h;omega
def ey(a:List Nd)(i:Nat):Nd:=a.getD i default
variable{a:List Nd}{i:Nat}
theorem Qk(h:i<a.length):a[i]?=some (ey a i):=by simp[ey,List.getD,h]
def swp(a:List Nd)(i k:Nat):List Nd:=(a.set i (ey a k)).set k (ey a i)
@[simp] theorem lR(a:List Nd)(i k:Nat):(swp a i k).length=a.length:=by simp[swp]
theorem aj3(a:List Nd)(i j:Nat)(x:Nd)(h:i<a.length):ey (a.set i x) j=if j=i then x else ey a j:=by unfold ey List.getD;grind
theorem qU(a:List Nd)(i k j:Nat)(hi:i<a.length)(hk:k<a.length):ey (swp a i k) j=if j=k then ey a i else if j=i then ey a k else ey a j:=by simp_all[swp,aj3]
theorem IW{x:Nd}:x∈a↔∃i,i<a.length∧ey a i=x:=by
 rw[asy];constructor
 ·grind [Qk]
 ·rintro⟨i,hi,h⟩;exact⟨i,by rw[Qk hi,h]⟩
theorem Kt{k:Nat}(hi:i<a.length)(hk:k<a.length)(x:Nd):x∈swp a i k↔x∈a:=by
 rw[IW,IW];constructor
 ·rintro⟨j,hj,h⟩;rw[qU _ _ _ _ hi hk]at h;split at h
  ·exact⟨i,hi,h⟩
  ·split at h
   ·exact⟨k,hk,h⟩
   ·exact⟨j,by simpa using hj,h⟩
 ·rintro⟨j,hj,h⟩;by_cases e1:j=i
  ·subst e1;refine⟨k,by simpa using hk,?_⟩;rw[qU _ _ _ _ hi hk,IN rfl,h]
  ·by_cases e2:j=k
   ·subst e2;refine⟨i,by simpa using hi,?_⟩;rw[qU _ _ _ _ hi hk];simp_all
   ·exact⟨j,by simpa using hj,by simp_all[qU,IS]⟩
def Hp(a:List Nd):Prop:=∀j,0<j→j<a.length→BK (ey a ((j-1)/2)) (ey a j)
theorem Hp.min(h:Hp a):∀j,j<a.length→BK (ey a 0) (ey a j):=by
 intro j;induction j using Nat.strongRecOn with
 |ind j ih=>
  intro hj;by_cases h0:j=0
  ·subst h0;exact IV _
  ·exact BL (ih ((j-1)/2) (by omega) (by omega)) (h j (by omega) hj)
def UpI(a:List Nd)(i:Nat):Prop:=(∀j,0<j→j<a.length→j≠i→BK (ey a ((j-1)/2)) (ey a j))∧∀c,0<c→c<a.length→(c-1)/2=i→0<i→BK (ey a ((i-1)/2)) (ey a c)
theorem UpI.done(h:UpI a i)(hi:i<a.length)(hs:i=0∨ND (ey a i) (ey a ((i-1)/2))=false):Hp a:=by
 intro j h0 hj;by_cases e:j=i
 ·subst e;rcases hs with hs|hs
  ·omega
  ·exact hs
 ·exact h.1 j h0 hj e
theorem UpI.step(h:UpI a i)(h0:0<i)(hi:i<a.length)(hb:ND (ey a i) (ey a ((i-1)/2))=true):UpI (swp a i ((i-1)/2)) ((i-1)/2):=by
 have hp:(i-1)/2<a.length:=by omega
 have hpi:(i-1)/2<i:=by omega
 obtain⟨p,PF⟩:∃p,p=(i-1)/2:=⟨_,rfl⟩;rw[←PF]at hp hpi hb⊢;have hle:=DK hb;refine⟨fun j j0 hj cV=>?_,fun c c0 hc hcp QE=>?_⟩
 ·rw[lR]at hj;rw[qU _ _ _ _ hi hp,qU _ _ _ _ hi hp,IS cV];by_cases e1:j=i
  ·simp_all
  ·rw[IS e1];by_cases e2:(j-1)/2=p
   ·rw[IN e2];have:=h.1 j j0 hj e1;grind [BL]
   ·rw[IS e2];by_cases e3:(j-1)/2=i
    ·rw[IN e3];have:=h.2 j j0 hj e3 h0;simp_all
    ·rw[IS e3];exact h.1 j j0 hj e1
 ·rw[lR]at hc;have hpp:(p-1)/2≠p∧(p-1)/2≠i:=by omega
  rw[qU _ _ _ _ hi hp,qU _ _ _ _ hi hp,IS hpp.1,IS hpp.2];have h1:=h.1 p QE hp (by omega);by_cases e1:c=p
  ·omega
  ·rw[IS e1];by_cases e2:c=i
   ·rw[IN e2];omega
   ·rw[IS e2];have:=h.1 c c0 hc e2;grind [BL]
theorem UpI.start(h:Hp a)(x:Nd):UpI (a++[x]) a.length:=by
 have UH:∀j,j<a.length→ey (a++[x]) j=ey a j:=fun j hj=>by simp[ey,List.getD,as4 hj]
 refine⟨fun j j0 hj cV=>?_,fun c c0 hc hcp h0=>?_⟩
 ·have:j<a.length:=by simp at hj;omega
  rw[UH _ (by omega),UH _ this];exact h j j0 this
 ·simp at hc;omega
def DnI(a:List Nd)(i:Nat):Prop:=(∀j,0<j→j<a.length→(j-1)/2≠i→BK (ey a ((j-1)/2)) (ey a j))∧∀c,0<c→c<a.length→(c-1)/2=i→0<i→BK (ey a ((i-1)/2)) (ey a c)
theorem DnI.done(h:DnI a i)(hs:∀c,0<c→c<a.length→(c-1)/2=i→BK (ey a i) (ey a c)):Hp a:=by
 intro j h0 hj;by_cases e:(j-1)/2=i
 ·simp_all
 ·exact h.1 j h0 hj e
theorem DnI.step{k:Nat}(h:DnI a i)(hk:k<a.length)(hki:k=2*i+1∨k=2*i+2)(acf:∀c,0<c→c<a.length→(c-1)/2=i→BK (ey a k) (ey a c))(hb:ND (ey a k) (ey a i)=true):DnI (swp a i k) k:=by
 have hi:i<a.length:=by omega
 have hle:=DK hb;have hpk:(k-1)/2=i:=by omega
 refine⟨fun j j0 hj cV=>?_,fun c c0 hc hcp hk0=>?_⟩
 ·rw[lR]at hj;rw[qU _ _ _ _ hi hk,qU _ _ _ _ hi hk,IS cV];by_cases e1:j=k
  ·simp_all
  ·rw[IS e1];by_cases e2:(j-1)/2=i
   ·grind
   ·rw[IS e2];by_cases e3:j=i
    ·rw[IN e3];have:=h.2 k (by omega) hk hpk (by omega);rw[e3];omega
    ·rw[IS e3];exact h.1 j j0 hj e2
 ·rw[lR]at hc;rw[qU _ _ _ _ hi hk,qU _ _ _ _ hi hk,hpk,IS (by omega),IN rfl,IS (by omega),IS (by omega)];have:=h.1 c c0 hc (by omega);simp_all
theorem DnI.start(h:Hp a)(cV:0<a.length):DnI ((swp a 0 (a.length-1)).take (a.length-1)) 0:=by
 have hl:((swp a 0 (a.length-1)).take (a.length-1)).length=a.length-1:=by simp
 have UH:∀j,0<j→j<a.length-1→ey ((swp a 0 (a.length-1)).take (a.length-1)) j=ey a j:=fun j j0 hj=>by
  have:ey ((swp a 0 (a.length-1)).take (a.length-1)) j=ey (swp a 0 (a.length-1)) j:=by simp[ey,List.getD,atM hj]
  rw[this,qU _ _ _ _ (by omega) (by omega),IS (by omega),IS (by omega)]
 refine⟨fun j j0 hj cV=>?_,fun c _ _ _ h0=>by omega⟩;rw[hl]at hj;rw[UH j j0 hj,UH _ (by omega) (by omega)];exact h j j0 (by omega)
theorem Xx(cV:0<a.length)(y:Nd):(y∈(swp a 0 (a.length-1)).take (a.length-1)→y∈a)∧(y∈a→y=ey a 0∨y∈(swp a 0 (a.length-1)).take (a.length-1)):=by
 refine⟨fun h=>(Kt cV (by omega) y).1 (atq h),fun h=>?_⟩;have h:=(Kt (i:=0) (k:=a.length-1) cV (by omega) y).2 h;rw[IW]at h;obtain⟨j,hj,e⟩:=h;rw[lR]at hj;by_cases hl:j=a.length-1
 ·simp_all[qU,IN]
 ·right;rw[asy];refine⟨j,?_⟩;rw[atM (by omega),Qk (by simpa using hj),e]
theorem abe{S R A:Type}{body:S→(S→Option R)→Option R}(st:A→S)(I:A→Prop)(m:A→Nat)(fin:A→Option R→Prop)(h:∀a,I a→∀rec,(∃a',I a'∧m a'<m a∧body (st a) rec=rec (st a'))∨(∃r,fin a r∧body (st a) rec=r)):∀N a,I a→m a<N→∃a' r,I a'∧fin a' r∧cE body N (st a)=r:=by
 intro N;induction N with
 |zero=>omega
 |succ N ih=>
  intro a hI hm;simp only[cE];rcases h a hI (cE body N)with⟨a',h1,h2,h3⟩|⟨r,h1,h2⟩
  ·grind
  grind
def up:Nat→List Nd→Nat→List Nd
 |0,a,_=>a
 |f+1,a,i=>if 0<i∧ND (ey a i) (ey a ((i-1)/2))=true then up f (swp a i ((i-1)/2)) ((i-1)/2)else a
def push(a:List Nd)(x:Nd):List Nd:=up (a.length+1) (a++[x]) a.length
def OU(a:List Nd)(i:Nat):Nat:=if 2*i+1+1<a.length∧ND (ey a (2*i+1+1)) (ey a (2*i+1))=true then 2*i+1+1 else 2*i+1
def down:Nat→List Nd→Nat→List Nd
 |0,a,_=>a
 |f+1,a,i=>if a.length≤2*i+1 then a else if ND (ey a (OU a i)) (ey a i)=true then down f (swp a i (OU a i)) (OU a i)else a
def VG(a:List Nd):List Nd:=(swp a 0 (a.length-1)).take (a.length-1)
def rest(a:List Nd):List Nd:=down (a.length+1) (VG a) 0
theorem aiL:∀(f:Nat){a:List Nd}{i:Nat},i<f→i<a.length→UpI a i→Hp (up f a i)∧(up f a i).length=a.length∧∀x,x∈up f a i↔x∈a
 |0,_,_,h,_,_=>by omega
 |f+1,a,i,hf,hi,h=>by
  unfold up;split
  ·rename_i hc;have hp:(i-1)/2<a.length:=by omega
   obtain⟨h1,h2,h3⟩:=aiL f (a:=swp a i ((i-1)/2)) (i:=(i-1)/2) (by omega) (by rw[lR];omega) (h.step hc.1 hi hc.2);simp_all[lR,Kt]
  ·rename_i hc;refine⟨h.done hi ?_,rfl,fun x=>Iff.rfl⟩;grind
variable{a:List Nd}
theorem ahN(h:Hp a)(x:Nd):Hp (push a x)∧(push a x).length=a.length+1∧∀y,y∈push a x↔y∈a∨y=x:=by simp_all[aiL,UpI.start,push]
theorem aej{i:Nat}(h:¬a.length≤2*i+1):OU a i<a.length∧(OU a i=2*i+1∨OU a i=2*i+2)∧∀c,0<c→c<a.length→(c-1)/2=i→BK (ey a (OU a i)) (ey a c):=by
 unfold OU;split
 ·rename_i hc;refine⟨by omega,.inr rfl,fun c c0 hl hp=>?_⟩;have:c=2*i+1∨c=2*i+1+1:=by omega
  rcases this with rfl|rfl
  ·exact DK hc.2
  ·exact IV _
 ·rename_i hc;refine⟨by omega,.inl rfl,fun c c0 hl hp=>?_⟩;have:c=2*i+1∨c=2*i+1+1:=by omega
  rcases this with rfl|rfl
  ·exact IV _
  ·unfold BK;simp_all
theorem Xy:∀(f:Nat){a:List Nd}{i:Nat},a.length≤f+i→DnI a i→Hp (down f a i)∧(down f a i).length=a.length∧∀x,x∈down f a i↔x∈a
 |0,a,i,hf,h=>⟨h.done fun c c0 hc hp=>by omega,rfl,fun x=>Iff.rfl⟩
 |f+1,a,i,hf,h=>by
  unfold down;split
  ·exact⟨h.done fun c c0 hc hp=>by omega,rfl,fun x=>Iff.rfl⟩
  ·rename_i hl;obtain⟨k1,k2,k3⟩:=aej hl;split
   ·rename_i hb;obtain⟨h1,h2,h3⟩:=Xy f (a:=swp a i (OU a i)) (i:=OU a i) (by rw[lR];omega) (h.step k1 k2 k3 hb);grind [lR,Kt]
   ·rename_i hb;refine⟨h.done fun c c0 hc hp=>BL ?_ (k3 c c0 hc hp),rfl,fun x=>Iff.rfl⟩;simp_all[BK,atj]
theorem Ql(h:Hp a)(cV:0<a.length):Hp (rest a)∧(rest a).length=a.length-1∧(∀y∈rest a,y∈a)∧(∀y∈a,y=ey a 0∨y∈rest a)∧∀y∈a,(ey a 0).len≤y.len:=by
 have hl:(VG a).length=a.length-1:=by simp[VG]
 obtain⟨h1,h2,h3⟩:=Xy (a.length+1) (a:=VG a) (i:=0) (by omega) (DnI.start h cV);refine⟨h1,by unfold rest;omega,fun y hy=>?_,fun y hy=>?_,fun y hy=>?_⟩
 ·exact(Xx cV y).1 ((h3 y).1 hy)
 ·rcases(Xx cV y).2 hy with h|h
  ·exact .inl h
  ·exact .inr ((h3 y).2 h)
 ·obtain⟨j,hj,rfl⟩:=IW.1 hy;exact aei (h.min j hj)
structure Ed where
 f:Nat
 t:Nat
 c:Nat
 deriving DecidableEq,Inhabited
def ew(E:List Ed)(i j c:Nat):Prop:=(⟨i,j,c⟩:Ed)∈E
abbrev Lab:=Option (Nat×Nat)
abbrev sq:=Nat→Lab
def EZ(o:sq)(v:Nat)(l:Lab):sq:=fun u=>if u=v then l else o u
def DL(E:List Ed)(o:sq):Nat:=E.countP fun y=>(o y.f).isNone
def NF(n:Nat)(o:sq):Nat:=(List.range n).countP fun v=>(o v).isSome
def Qm(E:List Ed)(s v L:Nat):Prop:=(v=s∧L=0)∨nH (ew E) s v L
structure DI(E:List Ed)(n s B:Nat)(o:sq)(pu:Nat)(H:List Nd):Prop where
 hp:Hp H
 node:∀x∈H,x.n<n
 real:∀x∈H,Qm E s x.n x.len
 pD:∀v L e,v<n→o v=some (L,e)→Qm E s v L∧∀L',Qm E s v L'→L≤L'
 front:∀u L e v c,u<n→o u=some (L,e)→(⟨u,v,c⟩:Ed)∈E→o v=none→∃x∈H,x.n=v∧x.len≤L+c
 src:o s=none→∃x∈H,x.n=s∧x.len=0
 aek:∀x∈H,x.len≤B*NF n o∧x.e≤NF n o
 aj4:∀v L e,v<n→o v=some (L,e)→L≤B*n∧e≤n
 cnt:pu+DL E o≤1+E.length
 aj5:H.length≤pu
theorem Xz(n:Nat)(o:sq):NF n o≤n:=by grind [NF,List.countP_le_length,List.range]
theorem JQ{A:Type}[DecidableEq A]{p q:A→Bool}{v:A}:∀{l:List A},l.Nodup→v∈l→(∀u,u≠v→p u=q u)→p v=false→q v=true→l.countP q=l.countP p+1
 |a::l,hn,hv,hpq,h0,h1=>by
  rw[auA]at hn;rw[aup,aup];by_cases e:a=v
  ·grind [List.countP_congr]
  ·have hv':v∈l:=by grind
   rw[JQ hn.2 hv' hpq h0 h1,hpq a e];omega
variable{o:sq}
theorem ael{n:Nat}{v:Nat}{l:Nat×Nat}(hv:v<n)(h:o v=none):NF n (EZ o v (some l))=NF n o+1:=JQ (p:=fun v=>(o v).isSome) (q:=fun u=>(EZ o v (some l) u).isSome) (v:=v) List.nodup_range (ath.2 hv) (fun u hu=>by simp[EZ,hu]) (by simp[h]) (by simp[EZ])
theorem DI.least{E:List Ed}{n s B:Nat}{pu:Nat}{H:List Nd}(h:DI E n s B o pu H)(hE:∀y∈E,y.f<n∧y.t<n){v L:Nat}(hv:o v=none)(hw:Qm E s v L):∃x∈H,x.len≤L:=by
 cases hs:o s with
 |none=>obtain⟨x,h1,_,h2⟩:=h.src hs;grind
 |some l=>
  obtain⟨Ls,es⟩:=l;rcases hw with⟨rfl,_⟩|hw
  ·rw[hs]at hv;cases hv
  have key:∀{v L:Nat},nH (ew E) s v L→o v=none→∃x∈H,x.len≤L:=by
   intro v L hw;induction hw with
   | @MA j c hc=>intro hv;have kY:s<n:=(hE _ hc).1;obtain⟨x,h1,_,h2⟩:=h.front s Ls es j c kY hs hc hv;have:=(h.pD s Ls es kY hs).2 0 (.inl ⟨rfl,rfl⟩);grind
   | @snoc m j A c hA hc ih=>
    intro hv;cases hm:o m with
    |none=>grind
    |some l=>obtain⟨Lm,em⟩:=l;have kY:m<n:=(hE _ hc).1;obtain⟨x,h1,_,h2⟩:=h.front m Lm em j c kY hm hc hv;have:=(h.pD m Lm em kY hm).2 A (.inr hA);grind
  exact key hw hv
theorem DI.skip{E:List Ed}{n s B:Nat}{pu:Nat}{H:List Nd}(h:DI E n s B o pu H)(cV:0<H.length)(rX:(o (ey H 0).n).isSome=true):DI E n s B o pu (rest H):=by
 obtain⟨r1,r2,r3,r4,r5⟩:=Ql h.hp cV;have other:∀x∈H,o x.n=none→x∈rest H:=fun x hx hn=>by grind
 refine⟨r1,fun x hx=>h.node x (r3 x hx),fun x hx=>h.real x (r3 x hx),h.pD,fun u L e v c hu ho he hv=>?_,fun hs=>?_,fun x hx=>h.aek x (r3 x hx),h.aj4,h.cnt,by rw[r2];have:=h.aj5;omega⟩
 ·obtain⟨x,x1,x2,x3⟩:=h.front u L e v c hu ho he hv;grind
 ·obtain⟨x,x1,x2,x3⟩:=h.src hs;grind
def rP(o:sq)(x:Nd):List Ed→Nat→List Nd→Nat×List Nd
 |[],pu,H=>(pu,H)
 |z::es,pu,H=>if(o z.t).isNone=true then rP o x es (pu+1) (push H ⟨z.t,x.len+z.c,x.e+1,pu⟩)else rP o x es pu H
theorem MB{o:sq}{x:Nd}:∀{es:List Ed}{pu:Nat}{H:List Nd},Hp H→∃k,k≤es.length∧(rP o x es pu H).1=pu+k∧(rP o x es pu H).2.length=H.length+k∧Hp (rP o x es pu H).2∧(∀y∈(rP o x es pu H).2,y∈H∨∃z∈es,o z.t=none∧y.n=z.t∧y.len=x.len+z.c∧y.e=x.e+1)∧(∀y∈H,y∈(rP o x es pu H).2)∧∀z∈es,o z.t=none→∃y∈(rP o x es pu H).2,y.n=z.t∧y.len=x.len+z.c
 |[],pu,H,h=>⟨0,ast _,rfl,rfl,h,fun y hy=>.inl hy,fun y hy=>hy,fun z hz=>by cases hz⟩
 |z::es,pu,H,h=>by
  unfold rP;split
  ·rename_i hz;have hz:o z.t=none:=by simpa using hz
   obtain⟨p1,p2,p3⟩:=ahN h ⟨z.t,x.len+z.c,x.e+1,pu⟩;obtain⟨k,k1,k2,k3,k4,k5,k6,k7⟩:=MB (o:=o) (x:=x) (es:=es) (pu:=pu+1) p1;refine⟨k+1,by simp;omega,by omega,by omega,k4,fun y hy=>?_,fun y hy=>k6 y ((p3 y).2 (.inl hy)),fun z' hz' hn=>?_⟩
   ·grind
   ·rcases asm.1 hz' with rfl|hz'
    ·exact⟨_,k6 _ ((p3 _).2 (.inr rfl)),rfl,rfl⟩
    ·exact k7 z' hz' hn
  ·rename_i hz;obtain⟨k,k1,k2,k3,k4,k5,k6,k7⟩:=MB (o:=o) (x:=x) (es:=es) (pu:=pu) h;refine⟨k,by simp;omega,k2,k3,k4,fun y hy=>?_,k6,fun z' hz' hn=>?_⟩
   ·simp_all
   grind
theorem aem(E:List Ed)(o:sq)(v:Nat)(l:Nat×Nat)(h:o v=none):DL E o=DL E (EZ o v (some l))+(E.filter fun y=>y.f==v).length:=by
 unfold DL;induction E with
 |nil=>rfl
 |cons y E ih=>grind [EZ]
variable{E:List Ed}
theorem DI.settle{n s B:Nat}{o:sq}{pu:Nat}{H:List Nd}(h:DI E n s B o pu H)(hE:∀y∈E,y.f<n∧y.t<n∧y.c≤B)(cV:0<H.length)(Ii:o (ey H 0).n=none):DI E n s B (EZ o (ey H 0).n (some ((ey H 0).len,(ey H 0).e))) (rP (EZ o (ey H 0).n (some ((ey H 0).len,(ey H 0).e))) (ey H 0) (E.filter fun y=>y.f==(ey H 0).n) pu (rest H)).1 (rP (EZ o (ey H 0).n (some ((ey H 0).len,(ey H 0).e))) (ey H 0) (E.filter fun y=>y.f==(ey H 0).n) pu (rest H)).2∧(rP (EZ o (ey H 0).n (some ((ey H 0).len,(ey H 0).e))) (ey H 0) (E.filter fun y=>y.f==(ey H 0).n) pu (rest H)).2.length+DL E (EZ o (ey H 0).n (some ((ey H 0).len,(ey H 0).e)))<H.length+DL E o:=by
 obtain⟨r1,r2,r3,r4,r5⟩:=Ql h.hp cV;obtain⟨x,hx⟩:∃x,x=ey H 0:=⟨_,rfl⟩;rw[←hx]at Ii r4 r5⊢;have hxm:x∈H:=IW.2 ⟨0,cV,hx.symm⟩;have hxn:=h.node x hxm;obtain⟨o1,ho1⟩:∃o1,o1=EZ o x.n (some (x.len,x.e)):=⟨_,rfl⟩;rw[←ho1];have oo:∀v,o1 v=if v=x.n then some (x.len,x.e)else o v:=fun v=>by rw[ho1];rfl
 have on:∀v,o1 v=none→v≠x.n∧o v=none:=fun v hv=>by grind
 obtain⟨k,k1,k2,k3,k4,k5,k6,k7⟩:=MB (o:=o1) (x:=x) (es:=E.filter fun y=>y.f==x.n) (pu:=pu) r1;have hs:NF n o1=NF n o+1:=by rw[ho1];exact ael hxn Ii
 have hop:DL E o=DL E o1+(E.filter fun y=>y.f==x.n).length:=by grind [aem]
 have mem:∀z,z∈(E.filter fun y=>y.f==x.n)↔z∈E∧z.f=x.n:=fun z=>by simp[auB]
 have go:∀z,z∈E→z.f=x.n→nH (ew E) s z.t (x.len+z.c):=fun z hz hf=>by
  have he:ew E x.n z.t z.c:=by
   unfold ew;have:(⟨x.n,z.t,z.c⟩:Ed)=z:=by rw[←hf]
   rw[this];omega
  rcases h.real x hxm with⟨e1,e2⟩|hw
  ·rw[e2,as5];rw[e1]at he;exact .MA he
  ·exact .snoc hw he
 have other:∀y∈H,y.n≠x.n→y∈(rP o1 x (E.filter fun y=>y.f==x.n) pu (rest H)).2:=fun y hy hn=>by grind
 refine⟨⟨k4,fun y hy=>?_,fun y hy=>?_,fun v L e hv ho=>?_,fun u L e v c hu ho he hv=>?_,fun hs'=>?_,fun y hy=>?_,fun v L e hv ho=>?_,?_,?_⟩,?_⟩
 ·rcases k5 y hy with h1|⟨z,z1,z2,z3,_⟩
  ·exact h.node y (r3 y h1)
  grind
 ·rcases k5 y hy with h1|⟨z,z1,z2,z3,z4,_⟩
  ·exact h.real y (r3 y h1)
  ·rw[z3,z4];exact .inr (go z ((mem z).1 z1).1 ((mem z).1 z1).2)
 ·rw[oo]at ho;split at ho
  ·rename_i e';simp only[cO,amn]at ho;obtain⟨rfl,rfl⟩:=ho;subst e';refine⟨h.real x hxm,fun L' hL=>?_⟩;obtain⟨y,y1,y2⟩:=h.least (fun y hy=>⟨(hE y hy).1,(hE y hy).2.1⟩) Ii hL;grind
  ·exact h.pD v L e hv ho
 ·obtain⟨v1,v2⟩:=on v hv;rw[oo]at ho;split at ho
  ·grind
  ·obtain⟨y,y1,y2,y3⟩:=h.front u L e v c hu ho he v2;grind
 ·obtain⟨v1,v2⟩:=on s hs';obtain⟨y,y1,y2,y3⟩:=h.src v2;grind
 ·rw[hs,Nat.mul_succ];rcases k5 y hy with h1|⟨z,z1,z2,z3,z4,z5⟩
  ·have:=h.aek y (r3 y h1);omega
  ·have:=h.aek x hxm;grind
 ·rw[oo]at ho;split at ho
  ·simp only[cO,amn]at ho;obtain⟨rfl,rfl⟩:=ho;have h1:=h.aek x hxm;have h2:=Xz n o;have h3:B*NF n o≤B*n:=atD _ h2;omega
  ·exact h.aj4 v L e hv ho
 ·have:=h.cnt;omega
 ·have:=h.aj5;omega
 omega
theorem DI.start{n s B:Nat}(hs:s<n):DI E n s B (fun _=>none) 1 [⟨s,0,0,0⟩]:=by
 refine⟨fun j j0 hj=>by simp at hj;omega,fun x hx=>?_,fun x hx=>?_,fun v L e _ h=>(by cases h),fun u L e v c _ h=>(by cases h),fun _=>⟨⟨s,0,0,0⟩,by simp,rfl,rfl⟩,fun x hx=>?_,fun v L e _ h=>(by cases h),?_,by simp⟩
 ·simp_all
 ·simp at hx;subst hx;exact .inl ⟨rfl,rfl⟩
 ·simp_all
 simp[DL]
theorem DI.done{n s B:Nat}{o:sq}{pu:Nat}(h:DI E n s B o pu [])(hE:∀y∈E,y.f<n∧y.t<n∧y.c≤B){v:Nat}(hv:v<n):match o v with
 |some (L,_)=>L≤B*n∧Qm E s v L∧∀L',Qm E s v L'→L≤L'
 |none=>∀L',¬Qm E s v L':=by
 cases ho:o v with
 |some l=>obtain⟨L,e⟩:=l;exact⟨(h.aj4 v L e hv ho).1,h.pD v L e hv ho⟩
 |none=>
  intro L' hL
  obtain⟨x,hx,_⟩:=h.least (fun y hy=>⟨(hE y hy).1,(hE y hy).2.1⟩) ho hL
  cases hx
set_option maxRecDepth 100000
set_option linter.all false
def Nd.pv(x:Nd):PV:=.agg [.int .i64 x.n,.int .i64 x.len,.int .i64 x.e,.int .i64 x.num]
abbrev pk(a:List Nd):List PV:=a.map Nd.pv
theorem nd0(x:Nd):cell x.pv 0=.int .i64 x.n:=rfl
theorem nd1(x:Nd):cell x.pv 1=.int .i64 x.len:=rfl
theorem nd2(x:Nd):cell x.pv 2=.int .i64 x.e:=rfl
theorem nd3(x:Nd):cell x.pv 3=.int .i64 x.num:=rfl
theorem ndE(x:Nd):PV.agg [cell x.pv 0,cell x.pv 1,cell x.pv 2,cell x.pv 3]=x.pv:=rfl
theorem eR{a:List Nd}{i:Nat}(h:i<a.length):(pk a)[i]?=some (ey a i).pv:=by rw[AT,Qk h];rfl
theorem anw(a b c:PV):cell (.agg [a,b,c]) 0=a:=rfl
theorem aj6(a b c:PV):cell (.agg [a,b,c]) 1=b:=rfl
theorem anx(a b c:PV):cell (.agg [a,b,c]) 2=c:=rfl
theorem ag3(a b c:PV):asAgg 3 (.agg [a,b,c])=some ():=rfl
theorem ahO(a b:Nd):lq [.agg [cell a.pv 0,cell a.pv 1,cell a.pv 2],.agg [cell b.pv 0,cell b.pv 1,cell b.pv 2]]=some (.bool (decide (a.len<b.len∨(a.len=b.len∧a.e<b.e)))):=by
 simp only[lq,zX,ag3,anw,aj6,anx,nd0,nd1,nd2,BY,U,asInt];by_cases h1:a.len<b.len
 ·simp[h1]
 ·by_cases h2:a.len=b.len
  ·simp[h2]
  grind
theorem AP(a:List Nd)(pu:Nat)(i k:Nat)(hi:i<a.length)(hk:k<a.length):bf [.rp [.fn 262 [],.rs 4 (pk a),.int .i64 pu],.int .i64 i,.int .i64 k]=some (.bool (ND (ey a i) (ey a k))):=by
 have e0:ao 4 (PV.rs 4 (pk a))=some (pk a):=by rfl
 simp only[bf,eG,aj6,anx,e0,U,asInt,BY,ag,eR hi,eR hk,ahO,asBool,nd3];grind [ey,ND]
theorem half(i:Nat)(h:0<i)(hi:i<4611686018427387904):IntKind.i64.wrap ((IntKind.i64.wrap ((i:Int)-1)).tdiv 2)=(((i-1)/2:Nat):Int):=by
 have e1:IntKind.i64.wrap ((i:Int)-1)=((i-1:Nat):Int):=by grind [aZ]
 have e2:((i-1:Nat):Int).tdiv 2=(((i-1)/2:Nat):Int):=rfl;grind [aZ]
theorem Ku{i:Nat}{es:List PV}(h:i<es.length):al (i:Int) es.length:=⟨by omega,by omega⟩
theorem Qn(a:List Nd)(i k:Nat):((pk a).set i (ey a k).pv).set k (ey a i).pv=pk (swp a i k):=by simp[swp,List.map_set]
theorem XA(Fx:TY2→Option PV)(t1:PV)(es:List PV)(ln ix:Int)(pu:Nat)(out:List PV)(x0 x1 x2:PV):∀(f N:Nat)(a:List Nd)(i:Nat),i<f→f≤N→i<a.length→a.length<4611686018427387904→cE (oT Fx) N ((i:Int),t1,es,ln,ix,(pu:Int),out,x0,x1,x2,pk a,())=Fx (t1,es,ln,IntKind.i64.wrap (ix+1),out,(pu:Int),x0,x1,x2,pk (up f a i),())
 |0,_,_,_,h,_,_,_=>by omega
 |f+1,0,_,_,_,h,_,_=>by omega
 |f+1,N+1,a,i,hf,hN,hi,ha=>by
  simp only[cE];unfold oT up;by_cases h0:0<i
  ·have hp:(i-1)/2<a.length:=by omega
   have hg:decide ((i:Int)>0)=true:=by simp;omega
   simp only[hg,cond_true,half i h0 (by omega),AP a pu i ((i-1)/2) hi hp,U,asBool];by_cases hb:ND (ey a i) (ey a ((i-1)/2))=true
   ·have hl1:i<(pk a).length:=by simpa using hi
    have hl2:(i-1)/2<(pk a).length:=by omega
    have hl3:(i-1)/2<((pk a).set i (ey a ((i-1)/2)).pv).length:=by simpa using hp
    have OV:((pk a).set i (ey a ((i-1)/2)).pv)[(i-1)/2]?=some (ey a ((i-1)/2)).pv:=by rw[asU];rw[IS (by omega),eR hp]
    simp only[hb,BY,IN (Ku hl1),IN (Ku hl2),IN (Ku hl3),are,eR hi,eR hp,U,ndE,OV,Qn,h0,auM];exact XA Fx t1 es ln ix pu out x0 x1 x2 f N (swp a i ((i-1)/2)) ((i-1)/2) (by omega) (by omega) (by rw[lR];omega) (by rw[lR];omega)
   simp_all
  grind
def yO(v:Nat):Lab→PV
 |none=>.agg [.int .i64 v,.int .i64 (-1),.int .i64 (-1)]
 |some (L,e)=>.agg [.int .i64 v,.int .i64 (L:Int),.int .i64 (e:Int)]
def eE(n:Nat)(o:sq):List PV:=(List.range n).map fun v=>yO v (o v)
def Ed.pv(y:Ed):PV:=.agg [.int .i64 y.f,.int .i64 y.t,.int .i64 y.c]
theorem AQ(n:Nat)(o:sq):(eE n o).length=n:=by simp[eE]
theorem AR{n v:Nat}(o:sq)(h:v<n):(eE n o)[v]?=some (yO v (o v)):=by simp[eE,h]
theorem abf{n v:Nat}(o:sq)(l:Nat×Nat)(h:v<n):(eE n o).set v (yO v (some l))=eE n (EZ o v (some l)):=by
 apply asB;intro i;rw[asU];by_cases e:v=i
 ·subst e;rw[IN rfl,IN (by rw[AQ];omega),AR _ h];simp[EZ]
 ·rw[IS e];by_cases hi:i<n
  ·simp_all[AR,EZ,Ne.symm]
  simp_all[atG,AQ]
theorem anz(v:Nat)(l:Lab):∃z:Int,asInt .i64 (cell (yO v l) 2)=some z∧(decide (z<0)=l.isNone)∧decide (z≥0)=l.isSome:=by
 cases l with
 |none=>exact⟨-1,rfl,rfl,rfl⟩
 |some p=>obtain⟨L,e⟩:=p;exact⟨e,rfl,by simp,by simp⟩
theorem ed1(y:Ed):cell y.pv 1=.int .i64 y.t:=rfl
theorem ed2(y:Ed):cell y.pv 2=.int .i64 y.c:=rfl
theorem Nc(n:Int):asInt .i64 (.int .i64 n)=some n:=by rfl
theorem OW(dR:PV×List PV×Int×List PV×Unit→Option PV)(t1:PV)(n:Nat)(o:sq)(x:Nd)(es:List Ed)(ht:∀z∈es,z.t<n)(hn:n<4294967296)(hx:x.len<4611686018427387904)(hxe:x.e<4611686018427387904)(hc:∀z∈es,z.c<4611686018427387904)(QI:es.length<4611686018427387904):∀(m N k pu:Nat)(H:List Nd),m+k=es.length→m<N→pu+m<4294967296→H.length+m<4294967296→cE (dh bd dR) N (t1,es.map Ed.pv,((es.length:Nat):Int),(k:Int),eE n o,(pu:Int),.int .i64 x.n,.int .i64 x.len,.int .i64 x.e,pk H,())=dR (t1,eE n o,((rP o x (es.drop k) pu H).1:Int),pk (rP o x (es.drop k) pu H).2,())
 |_,0,_,_,_,_,h,_,_=>by omega
 |0,N+1,k,pu,H,hk,hN,hpu,hH=>by
  simp only[cE];unfold dh;dsimp only;have hg:decide ((k:Int)<((es.length:Nat):Int))=false:=by simp;omega
  rw[hg,List.drop_eq_nil_of_le (by omega)];rfl
 |m+1,N+1,k,pu,H,hk,hN,hpu,hH=>by
  have ih:=OW dR t1 n o x es ht hn hx hxe hc QI m N (k+1);simp only[cE];generalize cE (dh bd dR) N=rec at ih⊢;unfold dh;dsimp only;have J2:k<es.length:=by omega
  have hg:decide ((k:Int)<((es.length:Nat):Int))=true:=by simp;omega
  obtain⟨z,hz⟩:∃z,es[k]?=some z:=⟨_,cN J2⟩;have hzm:z∈es:=aqY hz;have hzt:=ht z hzm;have Kk:(es.map Ed.pv)[k]?=some z.pv:=by simp_all
  have anA:es.drop k=z::es.drop (k+1):=by grind [List.drop_eq_getElem_cons,List.getElem?_eq_getElem,Option.some.inj]
  obtain⟨w,w1,w2,w3⟩:=anz z.t (o z.t);have kY:al (z.t:Int) (eE n o).length:=Ku (by rw[AQ];omega);rw[anA,rP];simp only[hg,BY,ag,Kk,U,ed1,ed2,Nc,IN kY,are,AR o hzt,w1,w2];by_cases Ii:(o z.t).isNone=true
  ·have e1:IntKind.i64.wrap ((x.len:Int)+(z.c:Int))=((x.len+z.c:Nat):Int):=by grind [aZ]
   have e2:pk H++[PV.agg [.int .i64 z.t,.int .i64 ((x.len+z.c:Nat):Int),.int .i64 ((x.e+1:Nat):Int),.int .i64 pu]]=pk (H++[⟨z.t,x.len+z.c,x.e+1,pu⟩]):=by simp[pk,Nd.pv]
   have e3:(pk (H++[⟨z.t,x.len+z.c,x.e+1,pu⟩])).length=H.length+1:=by simp
   have e4:IntKind.i64.wrap (((H.length+1:Nat):Int)-1)=(H.length:Int):=by grind [aZ]
   have ee:(H.length+1)*32≤ah∧0<32:=by unfold ah;omega
   simp only[Ii,BY,e1,ab (show x.e<9223372036854775807 by omega),e2,e3,e4,IN ee,ab (show pu<9223372036854775807 by omega),pM];refine(XA rec t1 (es.map Ed.pv) ((es.length:Nat):Int) (k:Int) (pu+1) (eE n o) _ _ _ (H.length+1) rounds (H++[⟨z.t,x.len+z.c,x.e+1,pu⟩]) H.length (by omega) (by unfold rounds;omega) (by simp) (by simp;omega)).trans ?_;rw[ab (by omega)];rw[show up (H.length+1) (H++[⟨z.t,x.len+z.c,x.e+1,pu⟩]) H.length=push H ⟨z.t,x.len+z.c,x.e+1,pu⟩from rfl];refine ih (pu+1) _ (by omega) (by omega) (by omega) ?_;have:(push H ⟨z.t,x.len+z.c,x.e+1,pu⟩).length=H.length+1:=by
    unfold push;have key:∀(f:Nat)(a:List Nd)(i:Nat),(up f a i).length=a.length:=by
     intro f;induction f with
     |zero=>intro a i;rfl
     |succ f ih=>
      intro a i;unfold up;split
      ·rw[ih,lR]
      rfl
    rw[key];simp
   omega
  ·simp only[Ii,cQ,IT,ab (show k<9223372036854775807 by omega)];grind
structure Gr(E:List Ed)(n:Nat)(ks vs:List PV):Prop where
 small:n<4294967296
 len:E.length<1073741824
 node:∀y∈E,y.f<n∧y.t<n∧y.c≤1073741824
 look:∀v:Nat,v<n→ao 3 (cB (.int .i64 v) (.rs 0 []) (ks.zip vs))=some ((E.filter fun y=>y.f==v).map Ed.pv)
section
variable {E:List Ed} {n:Nat} {ks vs:List PV}
def labelled(o:sq)(x:Nd):sq:=EZ o x.n (some (x.len,x.e))
def KR(dR:PV×List PV×Int×List PV×Unit→Option PV)(E:List Ed)(n:Nat)(ks vs:List PV)(o:sq)(x:Nd)(pu:Nat)(H:List Nd):Option PV:=
 if(o x.n).isSome=true then dR (.rm 3 ks vs,eE n o,(pu:Int),pk H,())
 else dR (.rm 3 ks vs,eE n (labelled o x),((rP (labelled o x) x (E.filter fun y=>y.f==x.n) pu H).1:Int),pk (rP (labelled o x) x (E.filter fun y=>y.f==x.n) pu H).2,())
structure Sm(n:Nat)(E:List Ed)(x:Nd)(pu:Nat)(H:List Nd):Prop where
 node:x.n<n
 len:x.len<4611686018427387904
 e:x.e<4611686018427387904
 pu:pu≤1073741824
 H:H.length≤1073741824
theorem EL(hG:Gr E n ks vs)(dR:PV×List PV×Int×List PV×Unit→Option PV)(o:sq)(x:Nd)(pu:Nat)(H:List Nd)(hS:Sm n E x pu H)(A:Int→PV→Int→Option PV):((asInt .i64 (.int .i64 x.n)).bind fun n23=>if al n23 (eE n o).length then(eE n o)[n23.toNat]?.bind fun e24=>(asInt .i64 (cell e24 2)).bind fun n25=>if decide (n25≥0)=true then dR (.rm 3 ks vs,eE n o,(pu:Int),pk H,())else(asInt .i64 (.int .i64 x.n)).bind fun n26=>if al n26 (eE n o).length then(eE n o)[n26.toNat]?.bind fun e27=>(asInt .i64 (.int .i64 x.n)).bind fun n28=>da 3 (.rm 3 ks vs) (A n26 e27 n28) fun aqH aqI=>(ao 3 (cB (.int .i64 n28) (.rs 0 []) (aqH.zip aqI))).bind fun anB=>bd.run (dh bd dR) (.rm 3 ks vs,anB,(anB.length:Int),0,(eE n o).set n26.toNat (.agg [.int .i64 x.n,.int .i64 x.len,.int .i64 x.e]),(pu:Int),.int .i64 x.n,.int .i64 x.len,.int .i64 x.e,pk H,())else none else none)=KR dR E n ks vs o x pu H:=by
 have kY:al (x.n:Int) (eE n o).length:=Ku (by rw[AQ];exact hS.node)
 obtain⟨w,w1,w2,w3⟩:=anz x.n (o x.n)
 simp only[Nc,U,IN kY,are,AR o hS.node,w1,w3,da,BY,hG.look x.n hS.node,pM]
 unfold KR
 by_cases hs:(o x.n).isSome=true
 ·simp only[hs,BY]
 ·simp only[hs,cQ,IT];have e1:(eE n o).set x.n (.agg [.int .i64 x.n,.int .i64 x.len,.int .i64 x.e])=eE n (labelled o x):=abf o (x.len,x.e) hS.node;rw[e1];have hl:(E.filter fun y=>y.f==x.n).length≤E.length:=atX ..;have bB:∀z∈E.filter (fun y=>y.f==x.n),z∈E:=fun z hz=>(auB.1 hz).1;have h1:=hG.len;have h2:=hS.pu;have h3:=hS.H;have:=OW dR (.rm 3 ks vs) n (labelled o x) x (E.filter fun y=>y.f==x.n) (fun z hz=>(hG.node z (bB z hz)).2.1) hG.small hS.len hS.e (fun z hz=>by have:=(hG.node z (bB z hz)).2.2;omega) (by omega) (E.filter fun y=>y.f==x.n).length rounds 0 pu H (by omega) (by unfold rounds;omega) (by omega) (by omega);simp_all
theorem aen{a:List Nd}{i:Nat}(h:2*i+1+1<a.length∧ND (ey a (2*i+1+1)) (ey a (2*i+1))=true):OU a i=2*i+1+1:=IN h
theorem abg{a:List Nd}{i:Nat}(h:¬(2*i+1+1<a.length∧ND (ey a (2*i+1+1)) (ey a (2*i+1))=true)):OU a i=2*i+1:=IS h
theorem OX(hG:Gr E n ks vs)(dR:PV×List PV×Int×List PV×Unit→Option PV)(o:sq)(x:Nd)(pu:Nat)(z1 z2 z3:Int):∀(f N:Nat)(a:List Nd)(i:Nat),a.length≤f+i→f<N→i<4294967296→Sm n E x pu a→cE (ez bd dR) N ((i:Int),.rm 3 ks vs,(pu:Int),z1,z2,z3,.int .i64 x.n,.int .i64 x.len,.int .i64 x.e,eE n o,pk a,())=KR dR E n ks vs o x pu (down f a i)
 |_,0,_,_,_,h,_,_=>by omega
 |0,N+1,a,i,hf,hN,hi,hS=>by
  simp only[cE];generalize cE (ez bd dR) N=rec;unfold ez down;dsimp only;have e1:IntKind.i64.wrap (IntKind.i64.wrap (2*(i:Int))+1)=((2*i+1:Nat):Int):=by grind [aZ]
  have hg:decide (((2*i+1:Nat):Int)≥((pk a).length:Int))=true:=by simp;omega
  rw[e1,IN hg];exact EL hG dR o x pu a hS _
 |f+1,N+1,a,i,hf,hN,hi,hS=>by
  have ih:=OX hG dR o x pu z1 z2 z3 f N;simp only[cE];generalize cE (ez bd dR) N=rec at ih⊢;have e1:IntKind.i64.wrap (IntKind.i64.wrap (2*(i:Int))+1)=((2*i+1:Nat):Int):=by grind [aZ]
  have e2:IntKind.i64.wrap (((2*i+1:Nat):Int)+1)=((2*i+1+1:Nat):Int):=ab (by omega);unfold ez down;dsimp only;rw[e1,e2];by_cases hl:a.length≤2*i+1
  ·have hg:decide (((2*i+1:Nat):Int)≥((pk a).length:Int))=true:=by simp;omega
   rw[IN hg,IN hl];exact EL hG dR o x pu a hS _
  ·have hg:¬decide (((2*i+1:Nat):Int)≥((pk a).length:Int))=true:=by simp;omega
   rw[IS hg,IS hl];have hlen:=hS.H;have uP:i<a.length:=by omega
   have hi1:i<(pk a).length:=by simpa using uP
   obtain⟨k1,k2,_⟩:=aej hl;have hk1:OU a i<(pk a).length:=by simpa using k1
   have hk3:OU a i<((pk a).set i (ey a (OU a i)).pv).length:=by simpa using k1
   have OV:((pk a).set i (ey a (OU a i)).pv)[OU a i]?=some (ey a (OU a i)).pv:=by rw[asU,IS (by omega),eR k1]
   have fin:=ih (swp a i (OU a i)) (OU a i) (by rw[lR];omega) (by omega) (by omega) ⟨hS.node,hS.len,hS.e,hS.pu,by rw[lR];omega⟩;by_cases hc:2*i+1+1<a.length∧ND (ey a (2*i+1+1)) (ey a (2*i+1))=true
   ·have hk:=aen hc;have hd:decide (((2*i+1+1:Nat):Int)<((pk a).length:Int))=true:=by simp;omega
    rw[hd];rw[hk]at hk1 hk3 OV fin k1⊢;simp only[cond_true,AP a pu (2*i+1+1) (2*i+1) (by omega) (by omega),hc.2,U,asBool,BY,AP a pu (2*i+1+1) i k1 uP];by_cases hb:ND (ey a (2*i+1+1)) (ey a i)=true
    ·rw[IN hb]at*;simp only[hb,ahX,cQ,IT,IN (Ku hi1),IN (Ku hk1),IN (Ku hk3),are,eR uP,eR k1,U,ndE,OV,Qn];omega
    ·rw[IS hb];have ke:(!ND (ey a (2*i+1+1)) (ey a i))=true:=by simpa using hb
     rw[IN ke];exact EL hG dR o x pu a hS _
   ·have hk:=abg hc;have hd:(bif decide (((2*i+1+1:Nat):Int)<((pk a).length:Int))then(bf [.rp [.fn 262 [],.rs 4 (pk a),.int .i64 (pu:Int)],.int .i64 ((2*i+1+1:Nat):Int),.int .i64 ((2*i+1:Nat):Int)]).bind fun r53=>(asBool r53).bind fun b54=>some b54 else some false)=some false:=by
     by_cases h2:2*i+1+1<a.length
     ·have hd:decide (((2*i+1+1:Nat):Int)<((pk a).length:Int))=true:=by simp;omega
      have hb:ND (ey a (2*i+1+1)) (ey a (2*i+1))=false:=by simp_all
      rw[hd,cond_true,AP a pu (2*i+1+1) (2*i+1) h2 (by omega),U,hb];rfl
     grind
    rw[hd];rw[hk]at hk1 hk3 OV fin k1⊢;simp only[U,asBool,cQ,IT,AP a pu (2*i+1) i k1 uP];by_cases hb:ND (ey a (2*i+1)) (ey a i)=true
    ·rw[IN hb]at*;simp only[hb,ahX,cQ,IT,IN (Ku hi1),IN (Ku hk1),IN (Ku hk3),are,eR uP,eR k1,U,ndE,OV,Qn];omega
    ·rw[IS hb];have ke:(!ND (ey a (2*i+1)) (ey a i))=true:=by simpa using hb
     rw[IN ke];exact EL hG dR o x pu a hS _
end
section
variable {E:List Ed} {n:Nat} {ks vs:List PV}
theorem abh(hG:Gr E n ks vs)(dR:PV×List PV×Int×List PV×Unit→Option PV)(o:sq)(pu:Nat)(H:List Nd)(hS:∀x∈H,Sm n E x pu H):fY bd (.rm 3 ks vs,eE n o,(pu:Int),pk H,()) dR=if H.length=0 then some (.rs 3 (eE n o))else KR dR E n ks vs o (ey H 0) pu (rest H):=by
 unfold fY;dsimp only;by_cases h0:H.length=0
 ·simp_all
 ·have hg:¬(((pk H).length:Int)==0)=true:=by simp_all
  rw[IS hg,IS h0];have hx:ey H 0∈H:=IW.2 ⟨0,by omega,rfl⟩;have hsm:=hS _ hx;have hH:=hsm.H;have hl:((pk H).length:Int)=(H.length:Int):=by simp
  have e1:IntKind.i64.wrap ((H.length:Int)-1)=((H.length-1:Nat):Int):=by grind [aZ]
  have i0:al (0:Int) (pk H).length:=Ku (i:=0) (by omega);have hl1:H.length-1<(pk H).length:=by omega
  have hl3:H.length-1<((pk H).set 0 (ey H (H.length-1)).pv).length:=by simp;omega
  have g0:(pk H)[0]?=some (ey H 0).pv:=eR (by omega);have gl:(pk H)[H.length-1]?=some (ey H (H.length-1)).pv:=eR (by omega);have g3:∃q,((pk H).set 0 (ey H (H.length-1)).pv)[H.length-1]?=some q:=⟨_,cN hl3⟩;obtain⟨q,g3⟩:=g3;have z0:Int.toNat 0=0:=rfl;have nB:(0:Int)≤0∧0≤((H.length-1:Nat):Int)∧((H.length-1:Nat):Int)≤(((((pk H).set 0 (ey H (H.length-1)).pv).set (H.length-1) (ey H 0).pv).length:Nat):Int):=by simp
  simp only[hl,e1,IN i0,z0,g0,U,IN (Ku hl1),are,gl,ndE,IN (Ku hl3),g3,and_true,IN nB,au6];simp only[nd0,nd1,nd2,Qn,←auf,pM];rw[IN (by simp)];have:=OX hG dR o (ey H 0) pu 0 0 0 (H.length+1) rounds (VG H) 0 (by simp[VG];omega) (by unfold rounds;omega) (by omega) ⟨hsm.node,hsm.len,hsm.e,hsm.pu,by simp[VG];omega⟩;exact this
theorem DI.small{s B:Nat}{o:sq}{pu:Nat}{H:List Nd}(h:DI E n s B o pu H)(hG:Gr E n ks vs)(hB:B≤1073741824)(hn:n≤64):∀x∈H,Sm n E x pu H:=fun x hx=>by have h1:=h.aek x hx;have h2:=Xz n o;have h3:B*NF n o≤1073741824*64:=auj hB (by omega);have h4:=h.cnt;have h5:=h.aj5;have h6:=hG.len;exact⟨h.node x hx,by omega,by omega,by omega,by omega⟩
theorem abi(hG:Gr E n ks vs){s B:Nat}(hs:s<n)(hB:B≤1073741824)(hEB:∀y∈E,y.c≤B)(hn:n≤64):∃o pu,DI E n s B o pu []∧bd.run (fY bd) (.rm 3 ks vs,eE n (fun _=>none),1,[PV.agg [.int .i64 s,.int .i64 0,.int .i64 0,.int .i64 0]],())=some (.rs 3 (eE n o)):=by
 have hE:∀y∈E,y.f<n∧y.t<n∧y.c≤B:=fun y hy=>⟨(hG.node y hy).1,(hG.node y hy).2.1,hEB y hy⟩;have hlen:=hG.len;obtain⟨a,r,hI,⟨h0,hr⟩,zd⟩:=abe (body:=fY bd) (A:=sq×Nat×List Nd) (fun a=>(PV.rm 3 ks vs,eE n a.1,(a.2.1:Int),pk a.2.2,())) (fun a=>DI E n s B a.1 a.2.1 a.2.2) (fun a=>a.2.2.length+DL E a.1) (fun a r=>a.2.2=[]∧r=some (.rs 3 (eE n a.1))) (fun a hI dR=>by
  obtain⟨o,pu,H⟩:=a;have hI:DI E n s B o pu H:=hI;dsimp only;rw[abh hG dR o pu H (hI.small hG hB hn)];by_cases hH:H.length=0
  ·simp_all
  ·left;rw[IS hH];have cV:0<H.length:=by omega
   unfold KR;by_cases rX:(o (ey H 0).n).isSome=true
   ·rw[IN rX];refine⟨(o,pu,rest H),hI.skip cV rX,?_,rfl⟩;have:=(Ql hI.hp cV).2.1;grind
   ·rw[IS rX];have Ii:o (ey H 0).n=none:=by simpa using rX
    obtain⟨s1,s2⟩:=hI.settle hE cV Ii;exact⟨(_,_,_),s1,s2,rfl⟩) rounds ((fun _=>none),1,[⟨s,0,0,0⟩]) (DI.start hs) (by
  grind [DL,List.countP_le_length,List.length_cons,List.length_nil,rounds])
 obtain⟨o,pu,H⟩:=a;dsimp only at h0 hr hI;subst h0;refine⟨o,pu,hI,?_⟩;rw[pM,←hr,←zd];rfl
theorem abj(hG:Gr E n ks vs){s B:Nat}(hs:s<n)(hB:B≤1073741824)(hEB:∀y∈E,y.c≤B)(hn:n≤64):∃o pu,DI E n s B o pu []∧iA [.int .i64 n,.rm 3 ks vs,.int .i64 s]=some (.rs 3 (eE n o)):=by
 obtain⟨o,pu,hI,h⟩:=abi hG hs hB hEB hn;refine⟨o,pu,hI,?_⟩;have ee:(0:Int)≤(n:Int)∧(n:Int)≤(n:Int)∧n*24≤ah∧0<24∧0<3:=by grind [ah]
 simp only[iA,uv,Nc,U,da,BY,IN ee,are,as7];have fill:∀k,k≤n→((List.range n).map fun v=>if v<k then yO v none else PV.agg [.int .i64 0,.int .i64 0,.int .i64 0]).length=n:=fun k _=>by simp
 refine bg (fun k=>(PV.rm 3 ks vs,(s:Int),(n:Int),(k:Int),(List.range n).map (fun v=>if v<k then yO v none else PV.agg [.int .i64 0,.int .i64 0,.int .i64 0]),())) n (fun k hk rec=>?_) (fun rec=>?_) (by unfold rounds;omega) ?_
 ·unfold jl;dsimp only;have hg:decide ((k:Int)<(n:Int))=true:=by simp;omega
  have kY:al (k:Int) ((List.range n).map fun v=>if v<k then yO v none else PV.agg [.int .i64 0,.int .i64 0,.int .i64 0]).length:=Ku (by simp_all);have eR:((List.range n).map fun v=>if v<k then yO v none else PV.agg [.int .i64 0,.int .i64 0,.int .i64 0])[k]?=some (PV.agg [.int .i64 0,.int .i64 0,.int .i64 0]):=by simp[hk]
  have rX:((List.range n).map fun v=>if v<k then yO v none else PV.agg [.int .i64 0,.int .i64 0,.int .i64 0]).set k (.agg [.int .i64 k,.int .i64 (-1),.int .i64 (-1)])=(List.range n).map fun v=>if v<k+1 then yO v none else PV.agg [.int .i64 0,.int .i64 0,.int .i64 0]:=by
   apply asB;intro i;rw[asU];by_cases e:k=i
   ·subst e;simp[hk,yO]
   ·rw[IS e];by_cases hi:i<n
    ·simp only[AT,as8 hi,No];grind
    simp_all
  rw[IN hg,IN kY,are,eR,U,rX,ab (by omega)]
 ·unfold jl;dsimp only;have hg:¬decide ((n:Int)<(n:Int))=true:=by simp
  have e0:IntKind.i64.wrap ((1:Nat)-1:Int)=0:=by rfl
  have e1:IntKind.i64.wrap (0+1)=1:=by rfl
  have UA:((List.range n).map fun v=>if v<n then yO v none else PV.agg [.int .i64 0,.int .i64 0,.int .i64 0])=eE n (fun _=>none):=by simp_all[eE,asJ,IN]
  rw[IS hg,UA,e1];refine Eq.trans ?_ h;rfl
 ·congr 1;have:((List.range n).map fun v=>if v<0 then yO v none else PV.agg [.int .i64 0,.int .i64 0,.int .i64 0])=List.replicate n (PV.agg [.int .i64 0,.int .i64 0,.int .i64 0]):=by apply asB;grind
  rw[this];rfl
end
theorem ahP{S R:Type}{body:S→(S→Option R)→Option R}{s:S}{r:Option R}(h:∀rec,body s rec=r):bd.run body s=r:=bg (fun _=>s) 0 (fun k hk=>by omega) h (by decide) rfl
def yP(n k:Nat)(F:Nat→PV)(z:PV):List PV:=(List.range n).map fun v=>if v<k then F v else z
theorem SV(n k:Nat)(F:Nat→PV)(z:PV):(yP n k F z).length=n:=by simp[yP]
theorem SX{n k:Nat}{F:Nat→PV}{z:PV}(hk:k<n):(yP n k F z)[k]?=some z:=by simp[yP,hk]
theorem SY{n k:Nat}{F:Nat→PV}{z:PV}(hk:k<n):(yP n k F z).set k (F k)=yP n (k+1) F z:=by
 apply asB;intro i;rw[asU];by_cases e:k=i
 ·subst e;simp[yP,hk]
 ·rw[IS e];unfold yP;grind
theorem OY(n:Nat)(F:Nat→PV)(z:PV):yP n 0 F z=List.replicate n z:=by unfold yP;apply asB;grind
theorem SZ(n:Nat)(F:Nat→PV)(z:PV):yP n n F z=(List.range n).map F:=by simp_all[yP,asJ,IN]
def Qo:Lab→Int
 |none=> -1
 |some (L,_)=>L
theorem aqJ(v:Nat)(l:Lab):asInt .i64 (cell (yO v l) 1)=some (Qo l):=by
 cases l with
 |none=>rfl
 |some p=>rfl
theorem VH(n:Nat)(hn:n≤64)(o:sq):kQ [.rs 3 (eE n o)]=some (.rs 1 ((List.range n).map fun v=>.int .i64 (Qo (o v)))):=by
 have e0:ao 3 (.rs 3 (eE n o))=some (eE n o):=by rfl
 have ee:(0:Int)≤((n:Nat):Int)∧((n:Nat):Int)≤((n:Nat):Int)∧n*8≤ah∧0<8∧0<1:=by grind [ah]
 simp only[kQ,sr,e0,U,AQ,are,IN ee];refine bg (fun k=>(eE n o,(n:Int),(k:Int),yP n k (fun v=>.int .i64 (Qo (o v))) (.int .i64 0),())) n (fun k hk rec=>?_) (fun rec=>?_) (by unfold rounds;omega) ?_
 ·unfold nI;dsimp only;have hg:decide ((k:Int)<(n:Int))=true:=by simp;omega
  rw[IN hg,ag,AR o hk,U,aqJ,U,IN (Ku (by rw[SV];omega)),are,SX hk,U,ab (by omega)];simp_all[SY,Qo]
 ·simp[nI,IS,SZ]
 ·rw[OY];rfl
theorem Md(i n:Nat)(h:i<n):dV [.int .i64 i,.rp [.int .i64 n]]=some (.bool false):=by
 have h1:decide ((i:Int)<0)=false:=by simp
 have h2:decide ((i:Int)≥(n:Int))=false:=by simp;omega
 simp only[dV,sb,Nc,U,h1,cond_false,h2]
theorem ed0(y:Ed):cell y.pv 0=.int .i64 y.f:=rfl
theorem aeo(E:List Ed)(n:Nat)(hn:n≤64)(hE:E.length≤4096)(h:∀y∈E,y.f<n∧y.t<n∧y.c≤1073741824):nf [.int .i64 n,.rs 3 (E.map Ed.pv),.rs 0 []]=some (.int .i64 0):=by
 have e0:ao 3 (.rs 3 (E.map Ed.pv))=some (E.map Ed.pv):=by rfl
 have e1:ao 1 (.rs 0 [])=some []:=by rfl
 have h1:decide ((n:Int)<0)=false:=by simp
 have h2:decide ((n:Int)>64)=false:=by simp;omega
 have h3:¬decide (((E.map Ed.pv).length:Int)>4096)=true:=by simp;omega
 simp only[nf,xp,Nc,e0,e1,U,h1,h2,cond_false,cQ,IT,IS h3];refine bg (fun k=>(([]:List PV),E.map Ed.pv,((E.map Ed.pv).length:Int),(k:Int),(n:Int),())) E.length (fun k hk rec=>?_) (fun rec=>?_) (by unfold rounds;omega) rfl
 ·unfold qV;dsimp only;have hg:decide ((k:Int)<((E.map Ed.pv).length:Int))=true:=by simp;omega
  obtain⟨z,hz⟩:∃z,E[k]?=some z:=⟨_,cN hk⟩;have Kk:(E.map Ed.pv)[k]?=some z.pv:=by simp_all
  obtain⟨a1,a2,a3⟩:=h z (aqY hz);have h4:decide ((z.c:Int)<0)=false:=by simp
  have h5:decide ((z.c:Int)>1073741824)=false:=by simp;omega
  simp only[hg,BY,ag,Kk,U,ed0,ed1,ed2,Nc,Md _ _ a1,Md _ _ a2,asBool,cond_false,cQ,IT,h4,h5,ab (show k<9223372036854775807 by omega)]
 simp[qV,IS,ahP,yQ]
abbrev Qp:=List (Nat×List Ed)
def S1(z:Ed):Qp→Qp
 |[]=>[(z.f,[z])]
 |(a,l)::r=>if z.f=a then(a,l++[z])::r else(a,l)::S1 z r
def xq(v:Nat):Qp→List Ed
 |[]=>[]
 |(a,l)::r=>if v=a then l else xq v r
def S2(m:Qp):List (PV×PV):=m.map fun x=>(.int .i64 x.1,.uY 3 (x.2.map Ed.pv))
theorem aep(a b:Nat):cz (PV.int .i64 a).cells (PV.int .i64 b).cells=decide (a=b):=by
 have:((a:Int)==(b:Int))=decide (a=b):=by grind
 simp_all[PV.cells,cz,peq,atc]
theorem anC(v:Nat):∀m:Qp,QY 3 (.int .i64 v) (S2 m)=some ((xq v m).map Ed.pv)
 |[]=>rfl
 |(a,l)::r=>by
  have ih:=anC v r;unfold S2 at ih⊢;simp only[ass,QY,xq,aep];by_cases h:v=a
  ·simp[h,fV]
  simp_all
theorem XB(z:Ed):∀m:Qp,dJ (.int .i64 z.f) (.uY 3 ((xq z.f m).map Ed.pv++[z.pv])) (Am (.int .i64 z.f) (S2 m))=S2 (S1 z m)
 |[]=>by rfl
 |(a,l)::r=>by
  have ih:=XB z r;unfold S2 at ih⊢;simp only[ass,Am,S1,xq,aep];by_cases h:z.f=a
  ·subst h;simp[dJ,aep]
  simp_all[asx,cQ,IT,dJ,aep,ass]
theorem OZ(v:Nat)(z:Ed):∀m:Qp,xq v (S1 z m)=xq v m++(if z.f=v then[z]else[])
 |[]=>by simp only[S1,xq];grind
 |(a,l)::r=>by
  simp only[S1];by_cases h:z.f=a
  ·subst h;simp only[BY,xq];grind
  ·rw[IS h];simp only[xq];by_cases hv:v=a
   ·simp_all
   simp_all[IS,OZ]
def Gn(E:List Ed):Qp:=E.foldl (fun m z=>S1 z m) []
theorem O0(E:List Ed)(z:Ed):Gn (E++[z])=S1 z (Gn E):=by simp[Gn]
theorem O1(v:Nat)(E:List Ed):xq v (Gn E)=E.filter fun y=>y.f==v:=by
 rw[←auw E];induction E.reverse with
 |nil=>rfl
 |cons z l ih=>grind [List.reverse_cons,O0,OZ]
theorem anD(v:Nat):∀m:Qp,ao 3 (cB (.int .i64 v) (.rs 0 []) (((S2 m).map fun x=>x.1).zip ((S2 m).map fun x=>x.2.rS)))=some ((xq v m).map Ed.pv)
 |[]=>by rfl
 |(a,l)::r=>by
  have ih:=anD v r;unfold S2 at ih⊢;simp only[ass,auO,cB,aep,xq];by_cases h:v=a
  ·simp[h,PV.rS,ao]
  simp_all
theorem Qq(E:List Ed)(hE:E.length≤4096):iB [.rs 3 (E.map Ed.pv),.bool false]=some (.rm 3 ((S2 (Gn E)).map fun x=>x.1) ((S2 (Gn E)).map fun x=>x.2.rS)):=by
 have e0:ao 3 (.rs 3 (E.map Ed.pv))=some (E.map Ed.pv):=by rfl
 simp only[iB,oU,e0,U,asBool];refine bg (fun k=>(false,E.map Ed.pv,((E.map Ed.pv).length:Int),(k:Int),S2 (Gn (E.take k)),())) E.length (fun k hk rec=>?_) (fun rec=>?_) (by unfold rounds;omega) (by rfl)
 ·unfold lF;dsimp only;have hg:decide ((k:Int)<((E.map Ed.pv).length:Int))=true:=by simp;omega
  obtain⟨z,hz⟩:∃z,E[k]?=some z:=⟨_,cN hk⟩;have Kk:(E.map Ed.pv)[k]?=some z.pv:=by simp_all
  have htk:E.take (k+1)=E.take k++[z]:=by rw[auZ,hz];rfl
  have hce:PV.agg [cell z.pv 0,cell z.pv 1,cell z.pv 2]=z.pv:=rfl;have hlen:((xq z.f (Gn (E.take k))).map Ed.pv++[z.pv]).length*24≤ah∧0<24:=by
   have:(xq z.f (Gn (E.take k))).length≤E.length:=by grind [O1,Nat.le_trans,List.length_filter_le,List.length_take]
   grind [List.length_append,List.length_map,List.length_cons,List.length_nil,ah]
  rw[IN hg,ag,Kk,U,IS (by simp)];have aqK:PV.agg [.int .i64 z.f,cell z.pv 1,cell z.pv 2]=z.pv:=rfl;simp only[ed0,Nc,U,anC,aqK,IN hlen];grind [XB,O0,ab]
 simp[lF,IS,asP]
theorem aeq(E:List Ed)(n:Nat)(hn:n≤64)(hE:E.length≤4096)(h:∀y∈E,y.f<n∧y.t<n∧y.c≤1073741824):Gr E n ((S2 (Gn E)).map fun x=>x.1) ((S2 (Gn E)).map fun x=>x.2.rS):=⟨by omega,by omega,h,fun v _=>by rw[anD,O1]⟩
end Go.Ab.Nw
