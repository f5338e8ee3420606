import Derived.Test.YteddgaennnfacaaGreatAbLib
import Derived.Test.YteddgaennnfacaaGreatSh3
namespace Go.Ab.Nw
section
variable (w:Nat→Nat→Nat→Prop)
def G6:Nat→Nat→Nat→Nat→Prop
 |0,i,j,L=>w i j L
 |k+1,i,j,L=>G6 k i j L∨∃A B,G6 k i k A∧G6 k k j B∧L=A+B
inductive iI:Nat→Nat→Nat→Prop
 |Fq {i j c:Nat}:w i j c→iI i j c
 |snoc {i m j A c:Nat}:iI i m A→w m j c→iI i j (A+c)
end
section
variable {w:Nat→Nat→Nat→Prop}
variable{i j L:Nat}
theorem G6.up{k:Nat}(h:G6 w k i j L):G6 w (k+1) i j L:=.inl h
theorem G6.le{k k':Nat}(hk:k≤k')(h:G6 w k i j L):G6 w k' i j L:=by
 induction hk with
 |refl=>omega
 |step _ ih=>exact ih.up
theorem EA:∀(k:Nat){m i j A B:Nat},m<k→G6 w k i m A→G6 w k m j B→∃C,C≤A+B∧G6 w k i j C
 |0,_,_,_,_,_,h,_,_=>by omega
 |k+1,m,i,j,A,B,h,ha,hb=>by
  by_cases hm:m=k
  ·subst hm;have h1:∃A',A'≤A∧G6 w m i m A':=by
    rcases ha with ha|⟨X,Y,x,y,e⟩
    ·grind
    grind
   have h2:∃B',B'≤B∧G6 w m m j B':=by
    rcases hb with hb|⟨X,Y,x,y,e⟩
    ·grind
    grind
   obtain⟨A',a1,a2⟩:=h1;obtain⟨B',b1,b2⟩:=h2;exact⟨A'+B',by omega,.inr ⟨A',B',a2,b2,rfl⟩⟩
  ·have bQ:m<k:=by omega
   rcases ha with ha|⟨X,Y,x,y,e⟩
   ·rcases hb with hb|⟨X',Y',x',y',e'⟩
    ·obtain⟨C,c1,c2⟩:=EA k bQ ha hb;exact⟨C,c1,.inl c2⟩
    ·obtain⟨C,c1,c2⟩:=EA k bQ ha x';exact⟨C+Y',by omega,.inr ⟨C,Y',c2,y',rfl⟩⟩
   ·rcases hb with hb|⟨X',Y',x',y',e'⟩
    ·obtain⟨C,c1,c2⟩:=EA k bQ y hb;exact⟨X+C,by omega,.inr ⟨X,C,x,c2,rfl⟩⟩
    ·exact⟨X+Y',by omega,.inr ⟨X,Y',x,y',rfl⟩⟩
theorem iI.join{m A B:Nat}(h1:iI w i m A)(h2:iI w m j B):iI w i j (A+B):=by
 induction h2 with
 |Fq h=>exact .snoc h1 h
 |snoc _ h ih=>rw[←al9];exact .snoc ih h
theorem G6.walk:∀{k i j L:Nat},G6 w k i j L→iI w i j L
 |0,_,_,_,h=>.Fq h
 |k+1,i,j,L,.inl h=>G6.walk (k:=k) h
 |k+1,i,j,L,.inr ⟨A,B,h1,h2,e⟩=>by rw[e];exact(G6.walk (k:=k) h1).join (G6.walk (k:=k) h2)
theorem iI.via{n:Nat}(hn:∀i j c,w i j c→i<n)(h:iI w i j L):∃C,C≤L∧G6 w n i j C:=by
 induction h with
 |Fq h=>exact⟨_,alz _,G6.le (an2 _) (show G6 w 0 _ _ _ from h)⟩
 |snoc _ h ih=>obtain⟨C,c1,c2⟩:=ih;obtain⟨D,d1,d2⟩:=EA n (hn _ _ _ h) c2 (G6.le (an2 _) (show G6 w 0 _ _ _ from h));grind
variable{w':Nat→Nat→Nat→Prop}
theorem iI.mono(hw:∀i j c,w i j c→w' i j c)(h:iI w i j L):iI w' i j L:=by
 induction h with
 |Fq h=>exact .Fq (hw _ _ _ h)
 |snoc _ h ih=>exact .snoc ih (hw _ _ _ h)
theorem iI.leq(hw:∀i j c,w i j c→∃c',c'≤c∧w' i j c')(h:iI w i j L):∃L',L'≤L∧iI w' i j L':=by
 induction h with
 |Fq h=>obtain⟨c',h1,h2⟩:=hw _ _ _ h;exact⟨c',h1,.Fq h2⟩
 |snoc _ h ih=>obtain⟨c',h1,h2⟩:=hw _ _ _ h;obtain⟨L',l1,l2⟩:=ih;exact⟨L'+c',by omega,.snoc l2 h2⟩
def S3(w:Nat→Nat→Nat→Prop)(i j:Nat)(o:Option Nat):Prop:=match o with
 |some L=>iI w i j L∧∀L',iI w i j L'→L≤L'
 |none=>∀L',¬iI w i j L'
theorem S3.unique{o o':Option Nat}(h:S3 w i j o)(h':S3 w i j o'):o=o':=by
 cases o with
 |none=>cases o' with
  |none=>rfl
  |some L=>exact absurd h'.1 (h L)
 |some L=>cases o' with
  |none=>exact absurd h.1 (h' L)
  |some L'=>rw[Nat.le_antisymm (h.2 _ h'.1) (h'.2 _ h.1)]
structure Fw(w:Nat→Nat→Nat→Prop)(inf:Nat)(n:Nat)(d:Nat→Nat→Nat):Prop where
 top:∀i j,i<n→j<n→d i j≤inf
 real:∀i j,i<n→j<n→d i j<inf→iI w i j (d i j)
def uJ(w:Nat→Nat→Nat→Prop)(k i j:Nat)(x:Nat):Prop:=∀L,G6 w k i j L→x≤L
variable{d:Nat→Nat→Nat}
theorem acf{inf n k:Nat}(h:Fw w inf n d)(hi:i<n)(hj:j<n)(hk:k<n){x:Nat}(hx:x=min (d i j) (d i k+d k j)){d':Nat→Nat→Nat}(hd:∀a b,d' a b=if a=i∧b=j then x else d a b):Fw w inf n d'∧(∀a b,d' a b≤d a b)∧(uJ w k i k (d i k)→uJ w k k j (d k j)→uJ w k i j (d i j)→uJ w (k+1) i j (d' i j)):=by
 refine⟨⟨fun a b ha hb=>?_,fun a b ha hb bQ=>?_⟩,fun a b=>?_,fun h1 h2 h3 L hL=>?_⟩
 ·rw[hd];split
  ·have:=h.top i j hi hj;omega
  ·exact h.top a b ha hb
 ·rw[hd]at bQ⊢;split
  ·rename_i e;rw[T0 e]at bQ;obtain⟨rfl,rfl⟩:=e;by_cases hm:d a b≤d a k+d k b
   ·rw[show x=d a b by omega]at bQ⊢;exact h.real a b ha hb bQ
   ·have e2:x=d a k+d k b:=by omega
    rw[e2]at bQ⊢;exact(h.real a k ha hk (by omega)).join (h.real k b hk hb (by omega))
  ·rename_i e;rw[acB e]at bQ;exact h.real a b ha hb bQ
 ·grind
 ·rw[hd,T0 ⟨rfl,rfl⟩];rcases hL with hL|⟨A,B,a1,a2,e⟩
  ·have:=h3 _ hL;omega
  ·have:=h1 _ a1;have:=h2 _ a2;omega
theorem acg{inf n:Nat}(hn:∀i j c,w i j c→i<n)(h:Fw w inf n d)(hi:i<n)(hj:j<n)(hb:uJ w n i j (d i j))(sU:∀L,(∀L',iI w i j L'→L≤L')→iI w i j L→L<inf):S3 w i j (if d i j<inf then some (d i j)else none):=by
 have low:∀L,iI w i j L→d i j≤L:=fun L hL=>by obtain⟨C,c1,c2⟩:=hL.via hn;exact alH (hb C c2) c1
 split
 ·rename_i bQ;exact⟨h.real i j hi hj bQ,low⟩
 ·rename_i Gk;intro L hL;have key:∀m,(∃L,L≤m∧iI w i j L)→∃L,iI w i j L∧∀L',iI w i j L'→L≤L':=by
   intro m;induction m with
   |zero=>grind
   |succ m ih=>
    rintro⟨L,hl,hw⟩;by_cases he:∃L,L≤m∧iI w i j L
    ·exact ih he
    grind
  obtain⟨L0,h1,h2⟩:=key L ⟨L,alz _,hL⟩;grind
end
structure Nd where
 n:Nat
 len:Nat
 e:Nat
 num:Nat
 deriving DecidableEq,Inhabited
def J7(a b:Nd):Bool:=decide (a.len<b.len∨(a.len=b.len∧(a.e<b.e∨(a.e=b.e∧a.num<b.num))))
def yU(a b:Nd):Prop:=J7 b a=false
theorem S4(a b:Nd):J7 a b=true↔(a.len<b.len∨(a.len=b.len∧(a.e<b.e∨(a.e=b.e∧a.num<b.num)))):=by simp[J7]
theorem EB(a b:Nd):yU a b↔¬(b.len<a.len∨(b.len=a.len∧(b.e<a.e∨(b.e=a.e∧b.num<a.num)))):=by unfold yU;rw[←S4];simp
theorem FG(a:Nd):yU a a:=by rw[EB];omega
theorem yV{a b c:Nd}(h:yU a b)(k:yU b c):yU a c:=by rw[EB]at*;omega
theorem A5{a b:Nd}(h:J7 a b=true):yU a b:=by grind [EB,S4]
theorem YV{a b:Nd}(h:yU a b):a.len≤b.len:=by rw[EB]at h;omega
def ea(a:List Nd)(i:Nat):Nd:=a.getD i default
variable{a:List Nd}{i:Nat}
theorem MI(h:i<a.length):a[i]?=some (ea a i):=by simp[ea,List.getD,h]
def swp(a:List Nd)(i k:Nat):List Nd:=(a.set i (ea a k)).set k (ea a i)
@[simp] theorem j2(a:List Nd)(i k:Nat):(swp a i k).length=a.length:=by simp[swp]
theorem aer(a:List Nd)(i j:Nat)(x:Nd)(h:i<a.length):ea (a.set i x) j=if j=i then x else ea a j:=by unfold ea List.getD;grind
theorem oP(a:List Nd)(i k j:Nat)(hi:i<a.length)(hk:k<a.length):ea (swp a i k) j=if j=k then ea a i else if j=i then ea a k else ea a j:=by simp_all[swp,aer]
theorem FH{x:Nd}:x∈a↔∃i,i<a.length∧ea a i=x:=by
 rw[als];constructor
 ·grind [MI]
 ·rintro⟨i,hi,h⟩;exact⟨i,by rw[MI hi,h]⟩
theorem Hk{k:Nat}(hi:i<a.length)(hk:k<a.length)(x:Nd):x∈swp a i k↔x∈a:=by
 rw[FH,FH];constructor
 ·rintro⟨j,hj,h⟩;rw[oP _ _ _ _ hi hk]at h;split at h
  ·exact⟨i,hi,h⟩
  ·split at h
   ·exact⟨k,hk,h⟩
   ·exact⟨j,by simpa using hj,h⟩
 ·rintro⟨j,hj,h⟩;by_cases e1:j=i
  ·subst e1;refine⟨k,by simpa using hk,?_⟩;rw[oP _ _ _ _ hi hk,T0 rfl,h]
  ·by_cases e2:j=k
   ·subst e2;refine⟨i,by simpa using hi,?_⟩;rw[oP _ _ _ _ hi hk];simp_all
   ·exact⟨j,by simpa using hj,by simp_all[oP,acB]⟩
def Hp(a:List Nd):Prop:=∀j,0<j→j<a.length→yU (ea a ((j-1)/2)) (ea a j)
theorem Hp.min(h:Hp a):∀j,j<a.length→yU (ea a 0) (ea a j):=by
 intro j;induction j using Nat.strongRecOn with
 |ind j ih=>
  intro hj;by_cases h0:j=0
  ·subst h0;exact FG _
  ·exact yV (ih ((j-1)/2) (by omega) (by omega)) (h j (by omega) hj)
def UpI(a:List Nd)(i:Nat):Prop:=(∀j,0<j→j<a.length→j≠i→yU (ea a ((j-1)/2)) (ea a j))∧∀c,0<c→c<a.length→(c-1)/2=i→0<i→yU (ea a ((i-1)/2)) (ea a c)
theorem UpI.done(h:UpI a i)(hi:i<a.length)(hs:i=0∨J7 (ea a i) (ea a ((i-1)/2))=false):Hp a:=by
 intro j h0 hj;by_cases e:j=i
 ·subst e;rcases hs with hs|hs
  ·omega
  ·exact hs
 ·exact h.1 j h0 hj e
theorem UpI.step(h:UpI a i)(h0:0<i)(hi:i<a.length)(hb:J7 (ea a i) (ea a ((i-1)/2))=true):UpI (swp a i ((i-1)/2)) ((i-1)/2):=by
 have hp:(i-1)/2<a.length:=by omega
 have hpi:(i-1)/2<i:=by omega
 obtain⟨p,L9⟩:∃p,p=(i-1)/2:=⟨_,rfl⟩;rw[←L9]at hp hpi hb⊢;have hle:=A5 hb;refine⟨fun j j0 hj cC=>?_,fun c c0 hc hcp Na=>?_⟩
 ·rw[j2]at hj;rw[oP _ _ _ _ hi hp,oP _ _ _ _ hi hp,acB cC];by_cases e1:j=i
  ·simp_all
  ·rw[acB e1];by_cases e2:(j-1)/2=p
   ·rw[T0 e2];have:=h.1 j j0 hj e1;grind [yV]
   ·rw[acB e2];by_cases e3:(j-1)/2=i
    ·rw[T0 e3];have:=h.2 j j0 hj e3 h0;simp_all
    ·rw[acB e3];exact h.1 j j0 hj e1
 ·rw[j2]at hc;have hpp:(p-1)/2≠p∧(p-1)/2≠i:=by omega
  rw[oP _ _ _ _ hi hp,oP _ _ _ _ hi hp,acB hpp.1,acB hpp.2];have h1:=h.1 p Na hp (by omega);by_cases e1:c=p
  ·omega
  ·rw[acB e1];by_cases e2:c=i
   ·rw[T0 e2];omega
   ·rw[acB e2];have:=h.1 c c0 hc e2;grind [yV]
theorem UpI.start(h:Hp a)(x:Nd):UpI (a++[x]) a.length:=by
 have GA:∀j,j<a.length→ea (a++[x]) j=ea a j:=fun j hj=>by simp[ea,List.getD,al6 hj]
 refine⟨fun j j0 hj cC=>?_,fun c c0 hc hcp h0=>?_⟩
 ·have:j<a.length:=by simp at hj;omega
  rw[GA _ (by omega),GA _ this];exact h j j0 this
 ·simp at hc;omega
def DnI(a:List Nd)(i:Nat):Prop:=(∀j,0<j→j<a.length→(j-1)/2≠i→yU (ea a ((j-1)/2)) (ea a j))∧∀c,0<c→c<a.length→(c-1)/2=i→0<i→yU (ea a ((i-1)/2)) (ea a c)
theorem DnI.done(h:DnI a i)(hs:∀c,0<c→c<a.length→(c-1)/2=i→yU (ea a i) (ea a c)):Hp a:=by
 intro j h0 hj;by_cases e:(j-1)/2=i
 ·simp_all
 ·exact h.1 j h0 hj e
theorem DnI.step{k:Nat}(h:DnI a i)(hk:k<a.length)(hki:k=2*i+1∨k=2*i+2)(abx:∀c,0<c→c<a.length→(c-1)/2=i→yU (ea a k) (ea a c))(hb:J7 (ea a k) (ea a i)=true):DnI (swp a i k) k:=by
 have hi:i<a.length:=by omega
 have hle:=A5 hb;have hpk:(k-1)/2=i:=by omega
 refine⟨fun j j0 hj cC=>?_,fun c c0 hc hcp hk0=>?_⟩
 ·rw[j2]at hj;rw[oP _ _ _ _ hi hk,oP _ _ _ _ hi hk,acB cC];by_cases e1:j=k
  ·simp_all
  ·rw[acB e1];by_cases e2:(j-1)/2=i
   ·grind
   ·rw[acB e2];by_cases e3:j=i
    ·rw[T0 e3];have:=h.2 k (by omega) hk hpk (by omega);rw[e3];omega
    ·rw[acB e3];exact h.1 j j0 hj e2
 ·rw[j2]at hc;rw[oP _ _ _ _ hi hk,oP _ _ _ _ hi hk,hpk,acB (by omega),T0 rfl,acB (by omega),acB (by omega)];have:=h.1 c c0 hc (by omega);simp_all
theorem DnI.start(h:Hp a)(cC:0<a.length):DnI ((swp a 0 (a.length-1)).take (a.length-1)) 0:=by
 have hl:((swp a 0 (a.length-1)).take (a.length-1)).length=a.length-1:=by simp
 have GA:∀j,0<j→j<a.length-1→ea ((swp a 0 (a.length-1)).take (a.length-1)) j=ea a j:=fun j j0 hj=>by
  have:ea ((swp a 0 (a.length-1)).take (a.length-1)) j=ea (swp a 0 (a.length-1)) j:=by simp[ea,List.getD,amj hj]
  rw[this,oP _ _ _ _ (by omega) (by omega),acB (by omega),acB (by omega)]
 refine⟨fun j j0 hj cC=>?_,fun c _ _ _ h0=>by omega⟩;rw[hl]at hj;rw[GA j j0 hj,GA _ (by omega) (by omega)];exact h j j0 (by omega)
theorem S5(cC:0<a.length)(y:Nd):(y∈(swp a 0 (a.length-1)).take (a.length-1)→y∈a)∧(y∈a→y=ea a 0∨y∈(swp a 0 (a.length-1)).take (a.length-1)):=by
 refine⟨fun h=>(Hk cC (by omega) y).1 (amG h),fun h=>?_⟩;have h:=(Hk (i:=0) (k:=a.length-1) cC (by omega) y).2 h;rw[FH]at h;obtain⟨j,hj,e⟩:=h;rw[j2]at hj;by_cases hl:j=a.length-1
 ·simp_all[oP,T0]
 ·right;rw[als];refine⟨j,?_⟩;rw[amj (by omega),MI (by simpa using hj),e]
theorem VP{S R A:Type}{body:S→(S→Option R)→Option R}(st:A→S)(I:A→Prop)(m:A→Nat)(fin:A→Option R→Prop)(h:∀a,I a→∀rec,(∃a',I a'∧m a'<m a∧body (st a) rec=rec (st a'))∨(∃r,fin a r∧body (st a) rec=r)):∀N a,I a→m a<N→∃a' r,I a'∧fin a' r∧dQ body N (st a)=r:=by
 intro N;induction N with
 |zero=>omega
 |succ N ih=>
  intro a hI hm;simp only[dQ];rcases h a hI (dQ body N)with⟨a',h1,h2,h3⟩|⟨r,h1,h2⟩
  ·grind
  grind
def up:Nat→List Nd→Nat→List Nd
 |0,a,_=>a
 |f+1,a,i=>if 0<i∧J7 (ea a i) (ea a ((i-1)/2))=true then up f (swp a i ((i-1)/2)) ((i-1)/2)else a
def push(a:List Nd)(x:Nd):List Nd:=up (a.length+1) (a++[x]) a.length
def Li(a:List Nd)(i:Nat):Nat:=if 2*i+1+1<a.length∧J7 (ea a (2*i+1+1)) (ea a (2*i+1))=true then 2*i+1+1 else 2*i+1
def down:Nat→List Nd→Nat→List Nd
 |0,a,_=>a
 |f+1,a,i=>if a.length≤2*i+1 then a else if J7 (ea a (Li a i)) (ea a i)=true then down f (swp a i (Li a i)) (Li a i)else a
def Rw(a:List Nd):List Nd:=(swp a 0 (a.length-1)).take (a.length-1)
def rest(a:List Nd):List Nd:=down (a.length+1) (Rw a) 0
theorem ado:∀(f:Nat){a:List Nd}{i:Nat},i<f→i<a.length→UpI a i→Hp (up f a i)∧(up f a i).length=a.length∧∀x,x∈up f a i↔x∈a
 |0,_,_,h,_,_=>by omega
 |f+1,a,i,hf,hi,h=>by
  unfold up;split
  ·rename_i hc;have hp:(i-1)/2<a.length:=by omega
   obtain⟨h1,h2,h3⟩:=ado f (a:=swp a i ((i-1)/2)) (i:=(i-1)/2) (by omega) (by rw[j2];omega) (h.step hc.1 hi hc.2);simp_all[j2,Hk]
  ·rename_i hc;refine⟨h.done hi ?_,rfl,fun x=>Iff.rfl⟩;grind
variable{a:List Nd}
theorem ach(h:Hp a)(x:Nd):Hp (push a x)∧(push a x).length=a.length+1∧∀y,y∈push a x↔y∈a∨y=x:=by simp_all[ado,UpI.start,push]
theorem YW{i:Nat}(h:¬a.length≤2*i+1):Li a i<a.length∧(Li a i=2*i+1∨Li a i=2*i+2)∧∀c,0<c→c<a.length→(c-1)/2=i→yU (ea a (Li a i)) (ea a c):=by
 unfold Li;split
 ·rename_i hc;refine⟨by omega,.inr rfl,fun c c0 hl hp=>?_⟩;have:c=2*i+1∨c=2*i+1+1:=by omega
  rcases this with rfl|rfl
  ·exact A5 hc.2
  ·exact FG _
 ·rename_i hc;refine⟨by omega,.inl rfl,fun c c0 hl hp=>?_⟩;have:c=2*i+1∨c=2*i+1+1:=by omega
  rcases this with rfl|rfl
  ·exact FG _
  ·unfold yU;simp_all
theorem S6:∀(f:Nat){a:List Nd}{i:Nat},a.length≤f+i→DnI a i→Hp (down f a i)∧(down f a i).length=a.length∧∀x,x∈down f a i↔x∈a
 |0,a,i,hf,h=>⟨h.done fun c c0 hc hp=>by omega,rfl,fun x=>Iff.rfl⟩
 |f+1,a,i,hf,h=>by
  unfold down;split
  ·exact⟨h.done fun c c0 hc hp=>by omega,rfl,fun x=>Iff.rfl⟩
  ·rename_i hl;obtain⟨k1,k2,k3⟩:=YW hl;split
   ·rename_i hb;obtain⟨h1,h2,h3⟩:=S6 f (a:=swp a i (Li a i)) (i:=Li a i) (by rw[j2];omega) (h.step k1 k2 k3 hb);grind [j2,Hk]
   ·rename_i hb;refine⟨h.done fun c c0 hc hp=>yV ?_ (k3 c c0 hc hp),rfl,fun x=>Iff.rfl⟩;simp_all[yU,amf]
theorem MJ(h:Hp a)(cC:0<a.length):Hp (rest a)∧(rest a).length=a.length-1∧(∀y∈rest a,y∈a)∧(∀y∈a,y=ea a 0∨y∈rest a)∧∀y∈a,(ea a 0).len≤y.len:=by
 have hl:(Rw a).length=a.length-1:=by simp[Rw]
 obtain⟨h1,h2,h3⟩:=S6 (a.length+1) (a:=Rw a) (i:=0) (by omega) (DnI.start h cC);refine⟨h1,by unfold rest;omega,fun y hy=>?_,fun y hy=>?_,fun y hy=>?_⟩
 ·exact(S5 cC y).1 ((h3 y).1 hy)
 ·rcases(S5 cC y).2 hy with h|h
  ·exact .inl h
  ·exact .inr ((h3 y).2 h)
 ·obtain⟨j,hj,rfl⟩:=FH.1 hy;exact YV (h.min j hj)
structure Ed where
 f:Nat
 t:Nat
 c:Nat
 deriving DecidableEq,Inhabited
def ew(E:List Ed)(i j c:Nat):Prop:=(⟨i,j,c⟩:Ed)∈E
abbrev Lab:=Option (Nat×Nat)
abbrev qj:=Nat→Lab
def Cf(o:qj)(v:Nat)(l:Lab):qj:=fun u=>if u=v then l else o u
def A6(E:List Ed)(o:qj):Nat:=E.countP fun y=>(o y.f).isNone
def J8(n:Nat)(o:qj):Nat:=(List.range n).countP fun v=>(o v).isSome
def MK(E:List Ed)(s v L:Nat):Prop:=(v=s∧L=0)∨iI (ew E) s v L
structure DI(E:List Ed)(n s B:Nat)(o:qj)(pu:Nat)(H:List Nd):Prop where
 hp:Hp H
 node:∀x∈H,x.n<n
 real:∀x∈H,MK E s x.n x.len
 kZ:∀v L e,v<n→o v=some (L,e)→MK E s v L∧∀L',MK E s v L'→L≤L'
 front:∀u L e v c,u<n→o u=some (L,e)→(⟨u,v,c⟩:Ed)∈E→o v=none→∃x∈H,x.n=v∧x.len≤L+c
 src:o s=none→∃x∈H,x.n=s∧x.len=0
 YX:∀x∈H,x.len≤B*J8 n o∧x.e≤J8 n o
 aes:∀v L e,v<n→o v=some (L,e)→L≤B*n∧e≤n
 cnt:pu+A6 E o≤1+E.length
 aet:H.length≤pu
theorem S7(n:Nat)(o:qj):J8 n o≤n:=by grind [J8,List.countP_le_length,List.range]
theorem GO{A:Type}[DecidableEq A]{p q:A→Bool}{v:A}:∀{l:List A},l.Nodup→v∈l→(∀u,u≠v→p u=q u)→p v=false→q v=true→l.countP q=l.countP p+1
 |a::l,hn,hv,hpq,h0,h1=>by
  rw[amJ]at hn;rw[List.countP_cons,List.countP_cons];by_cases e:a=v
  ·grind [List.countP_congr]
  ·have Xo:v∈l:=by grind
   rw[GO hn.2 Xo hpq h0 h1,hpq a e];omega
variable{o:qj}
theorem YY{n:Nat}{v:Nat}{l:Nat×Nat}(hv:v<n)(h:o v=none):J8 n (Cf o v (some l))=J8 n o+1:=GO (p:=fun v=>(o v).isSome) (q:=fun u=>(Cf o v (some l) u).isSome) (v:=v) ank (alI.2 hv) (fun u hu=>by simp[Cf,hu]) (by simp[h]) (by simp[Cf])
theorem DI.least{E:List Ed}{n s B:Nat}{pu:Nat}{H:List Nd}(h:DI E n s B o pu H)(hE:∀y∈E,y.f<n∧y.t<n){v L:Nat}(hv:o v=none)(hw:MK E s v L):∃x∈H,x.len≤L:=by
 cases hs:o s with
 |none=>obtain⟨x,h1,_,h2⟩:=h.src hs;grind
 |some l=>
  obtain⟨Ls,es⟩:=l;rcases hw with⟨rfl,_⟩|hw
  ·rw[hs]at hv;cases hv
  have key:∀{v L:Nat},iI (ew E) s v L→o v=none→∃x∈H,x.len≤L:=by
   intro v L hw;induction hw with
   | @Fq j c hc=>intro hv;have pV:s<n:=(hE _ hc).1;obtain⟨x,h1,_,h2⟩:=h.front s Ls es j c pV hs hc hv;have:=(h.kZ s Ls es pV hs).2 0 (.inl ⟨rfl,rfl⟩);grind
   | @snoc m j A c hA hc ih=>
    intro hv;cases hm:o m with
    |none=>grind
    |some l=>obtain⟨Lm,em⟩:=l;have pV:m<n:=(hE _ hc).1;obtain⟨x,h1,_,h2⟩:=h.front m Lm em j c pV hm hc hv;have:=(h.kZ m Lm em pV hm).2 A (.inr hA);grind
  exact key hw hv
theorem DI.skip{E:List Ed}{n s B:Nat}{pu:Nat}{H:List Nd}(h:DI E n s B o pu H)(cC:0<H.length)(rV:(o (ea H 0).n).isSome=true):DI E n s B o pu (rest H):=by
 obtain⟨r1,r2,r3,r4,r5⟩:=MJ h.hp cC;have other:∀x∈H,o x.n=none→x∈rest H:=fun x hx hn=>by grind
 refine⟨r1,fun x hx=>h.node x (r3 x hx),fun x hx=>h.real x (r3 x hx),h.kZ,fun u L e v c hu ho he hv=>?_,fun hs=>?_,fun x hx=>h.YX x (r3 x hx),h.aes,h.cnt,by rw[r2];have:=h.aet;omega⟩
 ·obtain⟨x,x1,x2,x3⟩:=h.front u L e v c hu ho he hv;grind
 ·obtain⟨x,x1,x2,x3⟩:=h.src hs;grind
def pL(o:qj)(x:Nd):List Ed→Nat→List Nd→Nat×List Nd
 |[],pu,H=>(pu,H)
 |z::es,pu,H=>if(o z.t).isNone=true then pL o x es (pu+1) (push H ⟨z.t,x.len+z.c,x.e+1,pu⟩)else pL o x es pu H
theorem Jf{o:qj}{x:Nd}:∀{es:List Ed}{pu:Nat}{H:List Nd},Hp H→∃k,k≤es.length∧(pL o x es pu H).1=pu+k∧(pL o x es pu H).2.length=H.length+k∧Hp (pL o x es pu H).2∧(∀y∈(pL o x es pu H).2,y∈H∨∃z∈es,o z.t=none∧y.n=z.t∧y.len=x.len+z.c∧y.e=x.e+1)∧(∀y∈H,y∈(pL o x es pu H).2)∧∀z∈es,o z.t=none→∃y∈(pL o x es pu H).2,y.n=z.t∧y.len=x.len+z.c
 |[],pu,H,h=>⟨0,alz _,rfl,rfl,h,fun y hy=>.inl hy,fun y hy=>hy,fun z hz=>by cases hz⟩
 |z::es,pu,H,h=>by
  unfold pL;split
  ·rename_i hz;have hz:o z.t=none:=by simpa using hz
   obtain⟨p1,p2,p3⟩:=ach h ⟨z.t,x.len+z.c,x.e+1,pu⟩;obtain⟨k,k1,k2,k3,k4,k5,k6,k7⟩:=Jf (o:=o) (x:=x) (es:=es) (pu:=pu+1) p1;refine⟨k+1,by simp;omega,by omega,by omega,k4,fun y hy=>?_,fun y hy=>k6 y ((p3 y).2 (.inl hy)),fun z' hz' hn=>?_⟩
   ·grind
   ·rcases alq.1 hz' with rfl|hz'
    ·exact⟨_,k6 _ ((p3 _).2 (.inr rfl)),rfl,rfl⟩
    ·exact k7 z' hz' hn
  ·rename_i hz;obtain⟨k,k1,k2,k3,k4,k5,k6,k7⟩:=Jf (o:=o) (x:=x) (es:=es) (pu:=pu) h;refine⟨k,by simp;omega,k2,k3,k4,fun y hy=>?_,k6,fun z' hz' hn=>?_⟩
   ·simp_all
   grind
theorem YZ(E:List Ed)(o:qj)(v:Nat)(l:Nat×Nat)(h:o v=none):A6 E o=A6 E (Cf o v (some l))+(E.filter fun y=>y.f==v).length:=by
 unfold A6;induction E with
 |nil=>rfl
 |cons y E ih=>grind [Cf]
variable{E:List Ed}
theorem DI.settle{n s B:Nat}{o:qj}{pu:Nat}{H:List Nd}(h:DI E n s B o pu H)(hE:∀y∈E,y.f<n∧y.t<n∧y.c≤B)(cC:0<H.length)(zT:o (ea H 0).n=none):DI E n s B (Cf o (ea H 0).n (some ((ea H 0).len,(ea H 0).e))) (pL (Cf o (ea H 0).n (some ((ea H 0).len,(ea H 0).e))) (ea H 0) (E.filter fun y=>y.f==(ea H 0).n) pu (rest H)).1 (pL (Cf o (ea H 0).n (some ((ea H 0).len,(ea H 0).e))) (ea H 0) (E.filter fun y=>y.f==(ea H 0).n) pu (rest H)).2∧(pL (Cf o (ea H 0).n (some ((ea H 0).len,(ea H 0).e))) (ea H 0) (E.filter fun y=>y.f==(ea H 0).n) pu (rest H)).2.length+A6 E (Cf o (ea H 0).n (some ((ea H 0).len,(ea H 0).e)))<H.length+A6 E o:=by
 obtain⟨r1,r2,r3,r4,r5⟩:=MJ h.hp cC;obtain⟨x,hx⟩:∃x,x=ea H 0:=⟨_,rfl⟩;rw[←hx]at zT r4 r5⊢;have Lj:x∈H:=FH.2 ⟨0,cC,hx.symm⟩;have hxn:=h.node x Lj;obtain⟨o1,ho1⟩:∃o1,o1=Cf o x.n (some (x.len,x.e)):=⟨_,rfl⟩;rw[←ho1];have oo:∀v,o1 v=if v=x.n then some (x.len,x.e)else o v:=fun v=>by rw[ho1];rfl
 have on:∀v,o1 v=none→v≠x.n∧o v=none:=fun v hv=>by grind
 obtain⟨k,k1,k2,k3,k4,k5,k6,k7⟩:=Jf (o:=o1) (x:=x) (es:=E.filter fun y=>y.f==x.n) (pu:=pu) r1;have hs:J8 n o1=J8 n o+1:=by rw[ho1];exact YY hxn zT
 have U2:A6 E o=A6 E o1+(E.filter fun y=>y.f==x.n).length:=by grind [YZ]
 have mem:∀z,z∈(E.filter fun y=>y.f==x.n)↔z∈E∧z.f=x.n:=fun z=>by simp[amM]
 have go:∀z,z∈E→z.f=x.n→iI (ew E) s z.t (x.len+z.c):=fun z hz hf=>by
  have he:ew E x.n z.t z.c:=by
   unfold ew;have:(⟨x.n,z.t,z.c⟩:Ed)=z:=by rw[←hf]
   rw[this];omega
  rcases h.real x Lj with⟨e1,e2⟩|hw
  ·rw[e2,amq];rw[e1]at he;exact .Fq he
  ·exact .snoc hw he
 have other:∀y∈H,y.n≠x.n→y∈(pL o1 x (E.filter fun y=>y.f==x.n) pu (rest H)).2:=fun y hy hn=>by grind
 refine⟨⟨k4,fun y hy=>?_,fun y hy=>?_,fun v L e hv ho=>?_,fun u L e v c hu ho he hv=>?_,fun hs'=>?_,fun y hy=>?_,fun v L e hv ho=>?_,?_,?_⟩,?_⟩
 ·rcases k5 y hy with h1|⟨z,z1,z2,z3,_⟩
  ·exact h.node y (r3 y h1)
  grind
 ·rcases k5 y hy with h1|⟨z,z1,z2,z3,z4,_⟩
  ·exact h.real y (r3 y h1)
  ·rw[z3,z4];exact .inr (go z ((mem z).1 z1).1 ((mem z).1 z1).2)
 ·rw[oo]at ho;split at ho
  ·rename_i e';simp only[By,akj]at ho;obtain⟨rfl,rfl⟩:=ho;subst e';refine⟨h.real x Lj,fun L' hL=>?_⟩;obtain⟨y,y1,y2⟩:=h.least (fun y hy=>⟨(hE y hy).1,(hE y hy).2.1⟩) zT hL;grind
  ·exact h.kZ v L e hv ho
 ·obtain⟨v1,v2⟩:=on v hv;rw[oo]at ho;split at ho
  ·grind
  ·obtain⟨y,y1,y2,y3⟩:=h.front u L e v c hu ho he v2;grind
 ·obtain⟨v1,v2⟩:=on s hs';obtain⟨y,y1,y2,y3⟩:=h.src v2;grind
 ·rw[hs,Nat.mul_succ];rcases k5 y hy with h1|⟨z,z1,z2,z3,z4,z5⟩
  ·have:=h.YX y (r3 y h1);omega
  ·have:=h.YX x Lj;grind
 ·rw[oo]at ho;split at ho
  ·simp only[By,akj]at ho;obtain⟨rfl,rfl⟩:=ho;have h1:=h.YX x Lj;have h2:=S7 n o;have h3:B*J8 n o≤B*n:=amL _ h2;omega
  ·exact h.aes v L e hv ho
 ·have:=h.cnt;omega
 ·have:=h.aet;omega
 omega
theorem DI.start{n s B:Nat}(hs:s<n):DI E n s B (fun _=>none) 1 [⟨s,0,0,0⟩]:=by
 refine⟨fun j j0 hj=>by simp at hj;omega,fun x hx=>?_,fun x hx=>?_,fun v L e _ h=>(by cases h),fun u L e v c _ h=>(by cases h),fun _=>⟨⟨s,0,0,0⟩,by simp,rfl,rfl⟩,fun x hx=>?_,fun v L e _ h=>(by cases h),?_,by simp⟩
 ·simp_all
 ·simp at hx;subst hx;exact .inl ⟨rfl,rfl⟩
 ·simp_all
 simp[A6]
theorem DI.done{n s B:Nat}{o:qj}{pu:Nat}(h:DI E n s B o pu [])(hE:∀y∈E,y.f<n∧y.t<n∧y.c≤B){v:Nat}(hv:v<n):match o v with
 |some (L,_)=>L≤B*n∧MK E s v L∧∀L',MK E s v L'→L≤L'
 |none=>∀L',¬MK E s v L':=by
 cases ho:o v with
 |some l=>obtain⟨L,e⟩:=l;exact⟨(h.aes v L e hv ho).1,h.kZ v L e hv ho⟩
 |none=>
  intro L' hL
  obtain⟨x,hx,_⟩:=h.least (fun y hy=>⟨(hE y hy).1,(hE y hy).2.1⟩) ho hL
  cases hx
set_option maxRecDepth 100000
set_option linter.all false
def Nd.pv(x:Nd):PV:=.agg [.int .i64 x.n,.int .i64 x.len,.int .i64 x.e,.int .i64 x.num]
abbrev nq(a:List Nd):List PV:=a.map Nd.pv
theorem nd0(x:Nd):cell x.pv 0=.int .i64 x.n:=rfl
theorem nd1(x:Nd):cell x.pv 1=.int .i64 x.len:=rfl
theorem nd2(x:Nd):cell x.pv 2=.int .i64 x.e:=rfl
theorem nd3(x:Nd):cell x.pv 3=.int .i64 x.num:=rfl
theorem ndE(x:Nd):PV.agg [cell x.pv 0,cell x.pv 1,cell x.pv 2,cell x.pv 3]=x.pv:=rfl
theorem fo{a:List Nd}{i:Nat}(h:i<a.length):(nq a)[i]?=some (ea a i).pv:=by rw[IS,MI h];rfl
theorem agQ(a b c:PV):cell (.agg [a,b,c]) 0=a:=rfl
theorem aeu(a b c:PV):cell (.agg [a,b,c]) 1=b:=rfl
theorem agR(a b c:PV):cell (.agg [a,b,c]) 2=c:=rfl
theorem ag3(a b c:PV):asAgg 3 (.agg [a,b,c])=some ():=rfl
theorem aci(a b:Nd):jE [.agg [cell a.pv 0,cell a.pv 1,cell a.pv 2],.agg [cell b.pv 0,cell b.pv 1,cell b.pv 2]]=some (.bool (decide (a.len<b.len∨(a.len=b.len∧a.e<b.e)))):=by
 simp only[jE,wX,ag3,agQ,aeu,agR,nd0,nd1,nd2,IT,U,asInt];by_cases h1:a.len<b.len
 ·simp[h1]
 ·by_cases h2:a.len=b.len
  ·simp[h2]
  grind
theorem xW(a:List Nd)(pu:Nat)(i k:Nat)(hi:i<a.length)(hk:k<a.length):aS [.rp [.fn 194 [],.rs 4 (nq a),.int .i64 pu],.int .i64 i,.int .i64 k]=some (.bool (J7 (ea a i) (ea a k))):=by
 have e0:ah 4 (PV.rs 4 (nq a))=some (nq a):=by rfl
 simp only[aS,ek,aeu,agR,e0,U,asInt,IT,ab,fo hi,fo hk,aci,asBool,nd3];grind [ea,J7]
theorem half(i:Nat)(h:0<i)(hi:i<4611686018427387904):IntKind.i64.wrap ((IntKind.i64.wrap ((i:Int)-1)).tdiv 2)=(((i-1)/2:Nat):Int):=by
 have e1:IntKind.i64.wrap ((i:Int)-1)=((i-1:Nat):Int):=by grind [aW]
 have e2:((i-1:Nat):Int).tdiv 2=(((i-1)/2:Nat):Int):=rfl;grind [aW]
theorem CY{i:Nat}{es:List PV}(h:i<es.length):ar (i:Int) es.length:=⟨by omega,by omega⟩
theorem ML(a:List Nd)(i k:Nat):((nq a).set i (ea a k).pv).set k (ea a i).pv=nq (swp a i k):=by simp[swp,List.map_set]
theorem S8(xT:TY2→Option PV)(t1:PV)(es:List PV)(ln ix:Int)(pu:Nat)(out:List PV)(x0 x1 x2:PV):∀(f N:Nat)(a:List Nd)(i:Nat),i<f→f≤N→i<a.length→a.length<4611686018427387904→dQ (mY xT) N ((i:Int),t1,es,ln,ix,(pu:Int),out,x0,x1,x2,nq a,())=xT (t1,es,ln,IntKind.i64.wrap (ix+1),out,(pu:Int),x0,x1,x2,nq (up f a i),())
 |0,_,_,_,h,_,_,_=>by omega
 |f+1,0,_,_,_,h,_,_=>by omega
 |f+1,N+1,a,i,hf,hN,hi,ha=>by
  simp only[dQ];unfold mY up;by_cases h0:0<i
  ·have hp:(i-1)/2<a.length:=by omega
   have hg:decide ((i:Int)>0)=true:=by simp;omega
   simp only[hg,cond_true,half i h0 (by omega),xW a pu i ((i-1)/2) hi hp,U,asBool];by_cases hb:J7 (ea a i) (ea a ((i-1)/2))=true
   ·have hl1:i<(nq a).length:=by simpa using hi
    have hl2:(i-1)/2<(nq a).length:=by omega
    have hl3:(i-1)/2<((nq a).set i (ea a ((i-1)/2)).pv).length:=by simpa using hp
    have Lk:((nq a).set i (ea a ((i-1)/2)).pv)[(i-1)/2]?=some (ea a ((i-1)/2)).pv:=by rw[al2];rw[acB (by omega),fo hp]
    simp only[hb,IT,T0 (CY hl1),T0 (CY hl2),T0 (CY hl3),ali,fo hi,fo hp,U,ndE,Lk,ML,h0,and_self];exact S8 xT t1 es ln ix pu out x0 x1 x2 f N (swp a i ((i-1)/2)) ((i-1)/2) (by omega) (by omega) (by rw[j2];omega) (by rw[j2];omega)
   simp_all
  grind
def vO(v:Nat):Lab→PV
 |none=>.agg [.int .i64 v,.int .i64 (-1),.int .i64 (-1)]
 |some (L,e)=>.agg [.int .i64 v,.int .i64 (L:Int),.int .i64 (e:Int)]
def eh(n:Nat)(o:qj):List PV:=(List.range n).map fun v=>vO v (o v)
def Ed.pv(y:Ed):PV:=.agg [.int .i64 y.f,.int .i64 y.t,.int .i64 y.c]
theorem xX(n:Nat)(o:qj):(eh n o).length=n:=by simp[eh]
theorem xY{n v:Nat}(o:qj)(h:v<n):(eh n o)[v]?=some (vO v (o v)):=by simp[eh,h]
theorem VQ{n v:Nat}(o:qj)(l:Nat×Nat)(h:v<n):(eh n o).set v (vO v (some l))=eh n (Cf o v (some l)):=by
 apply alL;intro i;rw[al2];by_cases e:v=i
 ·subst e;rw[T0 rfl,T0 (by rw[xX];omega),xY _ h];simp[Cf]
 ·rw[acB e];by_cases hi:i<n
  ·simp_all[xY,Cf,Ne.symm]
  simp_all[ams,xX]
theorem agS(v:Nat)(l:Lab):∃z:Int,asInt .i64 (cell (vO v l) 2)=some z∧(decide (z<0)=l.isNone)∧decide (z≥0)=l.isSome:=by
 cases l with
 |none=>exact⟨-1,rfl,rfl,rfl⟩
 |some p=>obtain⟨L,e⟩:=p;exact⟨e,rfl,by simp,by simp⟩
theorem ed1(y:Ed):cell y.pv 1=.int .i64 y.t:=rfl
theorem ed2(y:Ed):cell y.pv 2=.int .i64 y.c:=rfl
theorem Fv(n:Int):asInt .i64 (.int .i64 n)=some n:=by rfl
theorem Ll(dF:PV×List PV×Int×List PV×Unit→Option PV)(t1:PV)(n:Nat)(o:qj)(x:Nd)(es:List Ed)(ht:∀z∈es,z.t<n)(hn:n<4294967296)(hx:x.len<4611686018427387904)(hxe:x.e<4611686018427387904)(hc:∀z∈es,z.c<4611686018427387904)(Nf:es.length<4611686018427387904):∀(m N k pu:Nat)(H:List Nd),m+k=es.length→m<N→pu+m<4294967296→H.length+m<4294967296→dQ (cX aX dF) N (t1,es.map Ed.pv,((es.length:Nat):Int),(k:Int),eh n o,(pu:Int),.int .i64 x.n,.int .i64 x.len,.int .i64 x.e,nq H,())=dF (t1,eh n o,((pL o x (es.drop k) pu H).1:Int),nq (pL o x (es.drop k) pu H).2,())
 |_,0,_,_,_,_,h,_,_=>by omega
 |0,N+1,k,pu,H,hk,hN,hpu,hH=>by
  simp only[dQ];unfold cX;dsimp only;have hg:decide ((k:Int)<((es.length:Nat):Int))=false:=by simp;omega
  rw[hg,List.drop_eq_nil_of_le (by omega)];rfl
 |m+1,N+1,k,pu,H,hk,hN,hpu,hH=>by
  have ih:=Ll dF t1 n o x es ht hn hx hxe hc Nf m N (k+1);simp only[dQ];generalize dQ (cX aX dF) N=rec at ih⊢;unfold cX;dsimp only;have yf:k<es.length:=by omega
  have hg:decide ((k:Int)<((es.length:Nat):Int))=true:=by simp;omega
  obtain⟨z,hz⟩:∃z,es[k]?=some z:=⟨_,AI yf⟩;have hzm:z∈es:=alf hz;have hzt:=ht z hzm;have Gk:(es.map Ed.pv)[k]?=some z.pv:=by simp_all
  have agT:es.drop k=z::es.drop (k+1):=by grind [List.drop_eq_getElem_cons,List.getElem?_eq_getElem,Option.some.inj]
  obtain⟨w,w1,w2,w3⟩:=agS z.t (o z.t);have pV:ar (z.t:Int) (eh n o).length:=CY (by rw[xX];omega);rw[agT,pL];simp only[hg,IT,ab,Gk,U,ed1,ed2,Fv,T0 pV,ali,xY o hzt,w1,w2];by_cases zT:(o z.t).isNone=true
  ·have e1:IntKind.i64.wrap ((x.len:Int)+(z.c:Int))=((x.len+z.c:Nat):Int):=by grind [aW]
   have e2:nq H++[PV.agg [.int .i64 z.t,.int .i64 ((x.len+z.c:Nat):Int),.int .i64 ((x.e+1:Nat):Int),.int .i64 pu]]=nq (H++[⟨z.t,x.len+z.c,x.e+1,pu⟩]):=by simp[nq,Nd.pv]
   have e3:(nq (H++[⟨z.t,x.len+z.c,x.e+1,pu⟩])).length=H.length+1:=by simp
   have e4:IntKind.i64.wrap (((H.length+1:Nat):Int)-1)=(H.length:Int):=by grind [aW]
   have bF:(H.length+1)*32≤ag∧0<32:=by unfold ag;omega
   simp only[zT,IT,e1,af (show x.e<9223372036854775807 by omega),e2,e3,e4,T0 bF,af (show pu<9223372036854775807 by omega),vC];refine(S8 rec t1 (es.map Ed.pv) ((es.length:Nat):Int) (k:Int) (pu+1) (eh n o) _ _ _ (H.length+1) rounds (H++[⟨z.t,x.len+z.c,x.e+1,pu⟩]) H.length (by omega) (by unfold rounds;omega) (by simp) (by simp;omega)).trans ?_;rw[af (by omega)];rw[show up (H.length+1) (H++[⟨z.t,x.len+z.c,x.e+1,pu⟩]) H.length=push H ⟨z.t,x.len+z.c,x.e+1,pu⟩from rfl];refine ih (pu+1) _ (by omega) (by omega) (by omega) ?_;have:(push H ⟨z.t,x.len+z.c,x.e+1,pu⟩).length=H.length+1:=by
    unfold push;have key:∀(f:Nat)(a:List Nd)(i:Nat),(up f a i).length=a.length:=by
     intro f;induction f with
     |zero=>intro a i;rfl
     |succ f ih=>
      intro a i;unfold up;split
      ·rw[ih,j2]
      rfl
    rw[key];simp
   omega
  ·simp only[zT,IN,Wi,af (show k<9223372036854775807 by omega)];grind
structure Gr(E:List Ed)(n:Nat)(ks vs:List PV):Prop where
 small:n<4294967296
 len:E.length<1073741824
 node:∀y∈E,y.f<n∧y.t<n∧y.c≤1073741824
 look:∀v:Nat,v<n→ah 3 (bS (.int .i64 v) (.rs 0 []) (ks.zip vs))=some ((E.filter fun y=>y.f==v).map Ed.pv)
section
variable {E:List Ed} {n:Nat} {ks vs:List PV}
def labelled(o:qj)(x:Nd):qj:=Cf o x.n (some (x.len,x.e))
def KR(dF:PV×List PV×Int×List PV×Unit→Option PV)(E:List Ed)(n:Nat)(ks vs:List PV)(o:qj)(x:Nd)(pu:Nat)(H:List Nd):Option PV:=
 if(o x.n).isSome=true then dF (.rm 3 ks vs,eh n o,(pu:Int),nq H,())
 else dF (.rm 3 ks vs,eh n (labelled o x),((pL (labelled o x) x (E.filter fun y=>y.f==x.n) pu H).1:Int),nq (pL (labelled o x) x (E.filter fun y=>y.f==x.n) pu H).2,())
structure Sm(n:Nat)(E:List Ed)(x:Nd)(pu:Nat)(H:List Nd):Prop where
 node:x.n<n
 len:x.len<4611686018427387904
 e:x.e<4611686018427387904
 pu:pu≤1073741824
 H:H.length≤1073741824
theorem B8(hG:Gr E n ks vs)(dF:PV×List PV×Int×List PV×Unit→Option PV)(o:qj)(x:Nd)(pu:Nat)(H:List Nd)(hS:Sm n E x pu H)(A:Int→PV→Int→Option PV):((asInt .i64 (.int .i64 x.n)).bind fun n23=>if ar n23 (eh n o).length then(eh n o)[n23.toNat]?.bind fun e24=>(asInt .i64 (cell e24 2)).bind fun n25=>if decide (n25≥0)=true then dF (.rm 3 ks vs,eh n o,(pu:Int),nq H,())else(asInt .i64 (.int .i64 x.n)).bind fun n26=>if ar n26 (eh n o).length then(eh n o)[n26.toNat]?.bind fun e27=>(asInt .i64 (.int .i64 x.n)).bind fun n28=>cM 3 (.rm 3 ks vs) (A n26 e27 n28) fun ajZ aj0=>(ah 3 (bS (.int .i64 n28) (.rs 0 []) (ajZ.zip aj0))).bind fun agU=>aX.run (cX aX dF) (.rm 3 ks vs,agU,(agU.length:Int),0,(eh n o).set n26.toNat (.agg [.int .i64 x.n,.int .i64 x.len,.int .i64 x.e]),(pu:Int),.int .i64 x.n,.int .i64 x.len,.int .i64 x.e,nq H,())else none else none)=KR dF E n ks vs o x pu H:=by
 have pV:ar (x.n:Int) (eh n o).length:=CY (by rw[xX];exact hS.node)
 obtain⟨w,w1,w2,w3⟩:=agS x.n (o x.n)
 simp only[Fv,U,T0 pV,ali,xY o hS.node,w1,w3,cM,IT,hG.look x.n hS.node,vC]
 unfold KR
 by_cases hs:(o x.n).isSome=true
 ·simp only[hs,IT]
 ·simp only[hs,IN,Wi];have e1:(eh n o).set x.n (.agg [.int .i64 x.n,.int .i64 x.len,.int .i64 x.e])=eh n (labelled o x):=VQ o (x.len,x.e) hS.node;rw[e1];have hl:(E.filter fun y=>y.f==x.n).length≤E.length:=List.length_filter_le ..;have bk:∀z∈E.filter (fun y=>y.f==x.n),z∈E:=fun z hz=>(amM.1 hz).1;have h1:=hG.len;have h2:=hS.pu;have h3:=hS.H;have:=Ll dF (.rm 3 ks vs) n (labelled o x) x (E.filter fun y=>y.f==x.n) (fun z hz=>(hG.node z (bk z hz)).2.1) hG.small hS.len hS.e (fun z hz=>by have:=(hG.node z (bk z hz)).2.2;omega) (by omega) (E.filter fun y=>y.f==x.n).length rounds 0 pu H (by omega) (by unfold rounds;omega) (by omega) (by omega);simp_all
theorem Y0{a:List Nd}{i:Nat}(h:2*i+1+1<a.length∧J7 (ea a (2*i+1+1)) (ea a (2*i+1))=true):Li a i=2*i+1+1:=T0 h
theorem VR{a:List Nd}{i:Nat}(h:¬(2*i+1+1<a.length∧J7 (ea a (2*i+1+1)) (ea a (2*i+1))=true)):Li a i=2*i+1:=acB h
theorem Ln(hG:Gr E n ks vs)(dF:PV×List PV×Int×List PV×Unit→Option PV)(o:qj)(x:Nd)(pu:Nat)(z1 z2 z3:Int):∀(f N:Nat)(a:List Nd)(i:Nat),a.length≤f+i→f<N→i<4294967296→Sm n E x pu a→dQ (ec aX dF) N ((i:Int),.rm 3 ks vs,(pu:Int),z1,z2,z3,.int .i64 x.n,.int .i64 x.len,.int .i64 x.e,eh n o,nq a,())=KR dF E n ks vs o x pu (down f a i)
 |_,0,_,_,_,h,_,_=>by omega
 |0,N+1,a,i,hf,hN,hi,hS=>by
  simp only[dQ];generalize dQ (ec aX dF) N=rec;unfold ec down;dsimp only;have e1:IntKind.i64.wrap (IntKind.i64.wrap (2*(i:Int))+1)=((2*i+1:Nat):Int):=by grind [aW]
  have hg:decide (((2*i+1:Nat):Int)≥((nq a).length:Int))=true:=by simp;omega
  rw[e1,T0 hg];exact B8 hG dF o x pu a hS _
 |f+1,N+1,a,i,hf,hN,hi,hS=>by
  have ih:=Ln hG dF o x pu z1 z2 z3 f N;simp only[dQ];generalize dQ (ec aX dF) N=rec at ih⊢;have e1:IntKind.i64.wrap (IntKind.i64.wrap (2*(i:Int))+1)=((2*i+1:Nat):Int):=by grind [aW]
  have e2:IntKind.i64.wrap (((2*i+1:Nat):Int)+1)=((2*i+1+1:Nat):Int):=af (by omega);unfold ec down;dsimp only;rw[e1,e2];by_cases hl:a.length≤2*i+1
  ·have hg:decide (((2*i+1:Nat):Int)≥((nq a).length:Int))=true:=by simp;omega
   rw[T0 hg,T0 hl];exact B8 hG dF o x pu a hS _
  ·have hg:¬decide (((2*i+1:Nat):Int)≥((nq a).length:Int))=true:=by simp;omega
   rw[acB hg,acB hl];have hlen:=hS.H;have sI:i<a.length:=by omega
   have WN:i<(nq a).length:=by simpa using sI
   obtain⟨k1,k2,_⟩:=YW hl;have Qo:Li a i<(nq a).length:=by simpa using k1
   have hk3:Li a i<((nq a).set i (ea a (Li a i)).pv).length:=by simpa using k1
   have Lk:((nq a).set i (ea a (Li a i)).pv)[Li a i]?=some (ea a (Li a i)).pv:=by rw[al2,acB (by omega),fo k1]
   have fin:=ih (swp a i (Li a i)) (Li a i) (by rw[j2];omega) (by omega) (by omega) ⟨hS.node,hS.len,hS.e,hS.pu,by rw[j2];omega⟩;by_cases hc:2*i+1+1<a.length∧J7 (ea a (2*i+1+1)) (ea a (2*i+1))=true
   ·have hk:=Y0 hc;have hd:decide (((2*i+1+1:Nat):Int)<((nq a).length:Int))=true:=by simp;omega
    rw[hd];rw[hk]at Qo hk3 Lk fin k1⊢;simp only[cond_true,xW a pu (2*i+1+1) (2*i+1) (by omega) (by omega),hc.2,U,asBool,IT,xW a pu (2*i+1+1) i k1 sI];by_cases hb:J7 (ea a (2*i+1+1)) (ea a i)=true
    ·rw[T0 hb]at*;simp only[hb,alc,IN,Wi,T0 (CY WN),T0 (CY Qo),T0 (CY hk3),ali,fo sI,fo k1,U,ndE,Lk,ML];omega
    ·rw[acB hb];have je:(!J7 (ea a (2*i+1+1)) (ea a i))=true:=by simpa using hb
     rw[T0 je];exact B8 hG dF o x pu a hS _
   ·have hk:=VR hc;have hd:(bif decide (((2*i+1+1:Nat):Int)<((nq a).length:Int))then(aS [.rp [.fn 194 [],.rs 4 (nq a),.int .i64 (pu:Int)],.int .i64 ((2*i+1+1:Nat):Int),.int .i64 ((2*i+1:Nat):Int)]).bind fun r53=>(asBool r53).bind fun b54=>some b54 else some false)=some false:=by
     by_cases h2:2*i+1+1<a.length
     ·have hd:decide (((2*i+1+1:Nat):Int)<((nq a).length:Int))=true:=by simp;omega
      have hb:J7 (ea a (2*i+1+1)) (ea a (2*i+1))=false:=by simp_all
      rw[hd,cond_true,xW a pu (2*i+1+1) (2*i+1) h2 (by omega),U,hb];rfl
     grind
    rw[hd];rw[hk]at Qo hk3 Lk fin k1⊢;simp only[U,asBool,IN,Wi,xW a pu (2*i+1) i k1 sI];by_cases hb:J7 (ea a (2*i+1)) (ea a i)=true
    ·rw[T0 hb]at*;simp only[hb,alc,IN,Wi,T0 (CY WN),T0 (CY Qo),T0 (CY hk3),ali,fo sI,fo k1,U,ndE,Lk,ML];omega
    ·rw[acB hb];have je:(!J7 (ea a (2*i+1)) (ea a i))=true:=by simpa using hb
     rw[T0 je];exact B8 hG dF o x pu a hS _
end
section
variable {E:List Ed} {n:Nat} {ks vs:List PV}
theorem VS(hG:Gr E n ks vs)(dF:PV×List PV×Int×List PV×Unit→Option PV)(o:qj)(pu:Nat)(H:List Nd)(hS:∀x∈H,Sm n E x pu H):fB aX (.rm 3 ks vs,eh n o,(pu:Int),nq H,()) dF=if H.length=0 then some (.rs 3 (eh n o))else KR dF E n ks vs o (ea H 0) pu (rest H):=by
 unfold fB;dsimp only;by_cases h0:H.length=0
 ·simp_all
 ·have hg:¬(((nq H).length:Int)==0)=true:=by simp_all
  rw[acB hg,acB h0];have hx:ea H 0∈H:=FH.2 ⟨0,by omega,rfl⟩;have Qx:=hS _ hx;have hH:=Qx.H;have hl:((nq H).length:Int)=(H.length:Int):=by simp
  have e1:IntKind.i64.wrap ((H.length:Int)-1)=((H.length-1:Nat):Int):=by grind [aW]
  have i0:ar (0:Int) (nq H).length:=CY (i:=0) (by omega);have hl1:H.length-1<(nq H).length:=by omega
  have hl3:H.length-1<((nq H).set 0 (ea H (H.length-1)).pv).length:=by simp;omega
  have g0:(nq H)[0]?=some (ea H 0).pv:=fo (by omega);have gl:(nq H)[H.length-1]?=some (ea H (H.length-1)).pv:=fo (by omega);have g3:∃q,((nq H).set 0 (ea H (H.length-1)).pv)[H.length-1]?=some q:=⟨_,AI hl3⟩;obtain⟨q,g3⟩:=g3;have z0:Int.toNat 0=0:=rfl;have lC:(0:Int)≤0∧0≤((H.length-1:Nat):Int)∧((H.length-1:Nat):Int)≤(((((nq H).set 0 (ea H (H.length-1)).pv).set (H.length-1) (ea H 0).pv).length:Nat):Int):=by simp
  simp only[hl,e1,T0 i0,z0,g0,U,T0 (CY hl1),ali,gl,ndE,T0 (CY hl3),g3,aot,T0 lC,aox];simp only[nd0,nd1,nd2,ML,←anJ,vC];rw[T0 (by simp)];have:=Ln hG dF o (ea H 0) pu 0 0 0 (H.length+1) rounds (Rw H) 0 (by simp[Rw];omega) (by unfold rounds;omega) (by omega) ⟨Qx.node,Qx.len,Qx.e,Qx.pu,by simp[Rw];omega⟩;exact this
theorem DI.small{s B:Nat}{o:qj}{pu:Nat}{H:List Nd}(h:DI E n s B o pu H)(hG:Gr E n ks vs)(hB:B≤1073741824)(hn:n≤64):∀x∈H,Sm n E x pu H:=fun x hx=>by have h1:=h.YX x hx;have h2:=S7 n o;have h3:B*J8 n o≤1073741824*64:=amR hB (by omega);have h4:=h.cnt;have h5:=h.aet;have h6:=hG.len;exact⟨h.node x hx,by omega,by omega,by omega,by omega⟩
theorem VT(hG:Gr E n ks vs){s B:Nat}(hs:s<n)(hB:B≤1073741824)(hEB:∀y∈E,y.c≤B)(hn:n≤64):∃o pu,DI E n s B o pu []∧aX.run (fB aX) (.rm 3 ks vs,eh n (fun _=>none),1,[PV.agg [.int .i64 s,.int .i64 0,.int .i64 0,.int .i64 0]],())=some (.rs 3 (eh n o)):=by
 have hE:∀y∈E,y.f<n∧y.t<n∧y.c≤B:=fun y hy=>⟨(hG.node y hy).1,(hG.node y hy).2.1,hEB y hy⟩;have hlen:=hG.len;obtain⟨a,r,hI,⟨h0,hr⟩,wu⟩:=VP (body:=fB aX) (A:=qj×Nat×List Nd) (fun a=>(PV.rm 3 ks vs,eh n a.1,(a.2.1:Int),nq a.2.2,())) (fun a=>DI E n s B a.1 a.2.1 a.2.2) (fun a=>a.2.2.length+A6 E a.1) (fun a r=>a.2.2=[]∧r=some (.rs 3 (eh n a.1))) (fun a hI dF=>by
  obtain⟨o,pu,H⟩:=a;have hI:DI E n s B o pu H:=hI;dsimp only;rw[VS hG dF o pu H (hI.small hG hB hn)];by_cases hH:H.length=0
  ·simp_all
  ·left;rw[acB hH];have cC:0<H.length:=by omega
   unfold KR;by_cases rV:(o (ea H 0).n).isSome=true
   ·rw[T0 rV];refine⟨(o,pu,rest H),hI.skip cC rV,?_,rfl⟩;have:=(MJ hI.hp cC).2.1;grind
   ·rw[acB rV];have zT:o (ea H 0).n=none:=by simpa using rV
    obtain⟨s1,s2⟩:=hI.settle hE cC zT;exact⟨(_,_,_),s1,s2,rfl⟩) rounds ((fun _=>none),1,[⟨s,0,0,0⟩]) (DI.start hs) (by
  grind [A6,List.countP_le_length,List.length_cons,List.length_nil,rounds])
 obtain⟨o,pu,H⟩:=a;dsimp only at h0 hr hI;subst h0;refine⟨o,pu,hI,?_⟩;rw[vC,←hr,←wu];rfl
theorem VU(hG:Gr E n ks vs){s B:Nat}(hs:s<n)(hB:B≤1073741824)(hEB:∀y∈E,y.c≤B)(hn:n≤64):∃o pu,DI E n s B o pu []∧gD [.int .i64 n,.rm 3 ks vs,.int .i64 s]=some (.rs 3 (eh n o)):=by
 obtain⟨o,pu,hI,h⟩:=VT hG hs hB hEB hn;refine⟨o,pu,hI,?_⟩;have bF:(0:Int)≤(n:Int)∧(n:Int)≤(n:Int)∧n*24≤ag∧0<24∧0<3:=by grind [ag]
 simp only[gD,si,Fv,U,cM,IT,T0 bF,ali,al5];have fill:∀k,k≤n→((List.range n).map fun v=>if v<k then vO v none else PV.agg [.int .i64 0,.int .i64 0,.int .i64 0]).length=n:=fun k _=>by simp
 refine aK (fun k=>(PV.rm 3 ks vs,(s:Int),(n:Int),(k:Int),(List.range n).map (fun v=>if v<k then vO v none else PV.agg [.int .i64 0,.int .i64 0,.int .i64 0]),())) n (fun k hk rec=>?_) (fun rec=>?_) (by unfold rounds;omega) ?_
 ·unfold hU;dsimp only;have hg:decide ((k:Int)<(n:Int))=true:=by simp;omega
  have pV:ar (k:Int) ((List.range n).map fun v=>if v<k then vO v none else PV.agg [.int .i64 0,.int .i64 0,.int .i64 0]).length:=CY (by simp_all);have fo:((List.range n).map fun v=>if v<k then vO v none else PV.agg [.int .i64 0,.int .i64 0,.int .i64 0])[k]?=some (PV.agg [.int .i64 0,.int .i64 0,.int .i64 0]):=by simp[hk]
  have rV:((List.range n).map fun v=>if v<k then vO v none else PV.agg [.int .i64 0,.int .i64 0,.int .i64 0]).set k (.agg [.int .i64 k,.int .i64 (-1),.int .i64 (-1)])=(List.range n).map fun v=>if v<k+1 then vO v none else PV.agg [.int .i64 0,.int .i64 0,.int .i64 0]:=by
   apply alL;intro i;rw[al2];by_cases e:k=i
   ·subst e;simp[hk,vO]
   ·rw[acB e];by_cases hi:i<n
    ·simp only[IS,amN hi,No];grind
    simp_all
  rw[T0 hg,T0 pV,ali,fo,U,rV,af (by omega)]
 ·unfold hU;dsimp only;have hg:¬decide ((n:Int)<(n:Int))=true:=by simp
  have e0:IntKind.i64.wrap ((1:Nat)-1:Int)=0:=by rfl
  have e1:IntKind.i64.wrap (0+1)=1:=by rfl
  have QB:((List.range n).map fun v=>if v<n then vO v none else PV.agg [.int .i64 0,.int .i64 0,.int .i64 0])=eh n (fun _=>none):=by simp_all[eh,alQ,T0]
  rw[acB hg,QB,e1];refine Eq.trans ?_ h;rfl
 ·congr 1;have:((List.range n).map fun v=>if v<0 then vO v none else PV.agg [.int .i64 0,.int .i64 0,.int .i64 0])=List.replicate n (PV.agg [.int .i64 0,.int .i64 0,.int .i64 0]):=by apply alL;grind
  rw[this];rfl
end
theorem acj{S R:Type}{body:S→(S→Option R)→Option R}{s:S}{r:Option R}(h:∀rec,body s rec=r):aX.run body s=r:=aK (fun _=>s) 0 (fun k hk=>by omega) h (by decide) rfl
def vP(n k:Nat)(F:Nat→PV)(z:PV):List PV:=(List.range n).map fun v=>if v<k then F v else z
theorem OO(n k:Nat)(F:Nat→PV)(z:PV):(vP n k F z).length=n:=by simp[vP]
theorem OP{n k:Nat}{F:Nat→PV}{z:PV}(hk:k<n):(vP n k F z)[k]?=some z:=by simp[vP,hk]
theorem OQ{n k:Nat}{F:Nat→PV}{z:PV}(hk:k<n):(vP n k F z).set k (F k)=vP n (k+1) F z:=by
 apply alL;intro i;rw[al2];by_cases e:k=i
 ·subst e;simp[vP,hk]
 ·rw[acB e];unfold vP;grind
theorem Lp(n:Nat)(F:Nat→PV)(z:PV):vP n 0 F z=List.replicate n z:=by unfold vP;apply alL;grind
theorem OR(n:Nat)(F:Nat→PV)(z:PV):vP n n F z=(List.range n).map F:=by simp_all[vP,alQ,T0]
def MM:Lab→Int
 |none=> -1
 |some (L,_)=>L
theorem aj1(v:Nat)(l:Lab):asInt .i64 (cell (vO v l) 1)=some (MM l):=by
 cases l with
 |none=>rfl
 |some p=>rfl
theorem Rx(n:Nat)(hn:n≤64)(o:qj):jn [.rs 3 (eh n o)]=some (.rs 1 ((List.range n).map fun v=>.int .i64 (MM (o v)))):=by
 have e0:ah 3 (.rs 3 (eh n o))=some (eh n o):=by rfl
 have bF:(0:Int)≤((n:Nat):Int)∧((n:Nat):Int)≤((n:Nat):Int)∧n*8≤ag∧0<8∧0<1:=by grind [ag]
 simp only[jn,qk,e0,U,xX,ali,T0 bF];refine aK (fun k=>(eh n o,(n:Int),(k:Int),vP n k (fun v=>.int .i64 (MM (o v))) (.int .i64 0),())) n (fun k hk rec=>?_) (fun rec=>?_) (by unfold rounds;omega) ?_
 ·unfold lF;dsimp only;have hg:decide ((k:Int)<(n:Int))=true:=by simp;omega
  rw[T0 hg,ab,xY o hk,U,aj1,U,T0 (CY (by rw[OO];omega)),ali,OP hk,U,af (by omega)];simp_all[OQ,MM]
 ·simp[lF,acB,OR]
 ·rw[Lp];rfl
theorem Y1(i n:Nat)(h:i<n):dH [.int .i64 i,.rp [.int .i64 n]]=some (.bool false):=by
 have h1:decide ((i:Int)<0)=false:=by simp
 have h2:decide ((i:Int)≥(n:Int))=false:=by simp;omega
 simp only[dH,pW,Fv,U,h1,cond_false,h2]
theorem ed0(y:Ed):cell y.pv 0=.int .i64 y.f:=rfl
theorem Y2(E:List Ed)(n:Nat)(hn:n≤64)(hE:E.length≤4096)(h:∀y∈E,y.f<n∧y.t<n∧y.c≤1073741824):k8 [.int .i64 n,.rs 3 (E.map Ed.pv),.rs 0 []]=some (.int .i64 0):=by
 have e0:ah 3 (.rs 3 (E.map Ed.pv))=some (E.map Ed.pv):=by rfl
 have e1:ah 1 (.rs 0 [])=some []:=by rfl
 have h1:decide ((n:Int)<0)=false:=by simp
 have h2:decide ((n:Int)>64)=false:=by simp;omega
 have h3:¬decide (((E.map Ed.pv).length:Int)>4096)=true:=by simp;omega
 simp only[k8,uK,Fv,e0,e1,U,h1,h2,cond_false,IN,Wi,acB h3];refine aK (fun k=>(([]:List PV),E.map Ed.pv,((E.map Ed.pv).length:Int),(k:Int),(n:Int),())) E.length (fun k hk rec=>?_) (fun rec=>?_) (by unfold rounds;omega) rfl
 ·unfold oQ;dsimp only;have hg:decide ((k:Int)<((E.map Ed.pv).length:Int))=true:=by simp;omega
  obtain⟨z,hz⟩:∃z,E[k]?=some z:=⟨_,AI hk⟩;have Gk:(E.map Ed.pv)[k]?=some z.pv:=by simp_all
  obtain⟨a1,a2,a3⟩:=h z (alf hz);have h4:decide ((z.c:Int)<0)=false:=by simp
  have h5:decide ((z.c:Int)>1073741824)=false:=by simp;omega
  simp only[hg,IT,ab,Gk,U,ed0,ed1,ed2,Fv,Y1 _ _ a1,Y1 _ _ a2,asBool,cond_false,IN,Wi,h4,h5,af (show k<9223372036854775807 by omega)]
 simp[oQ,acB,acj,vQ]
abbrev MN:=List (Nat×List Ed)
def OS(z:Ed):MN→MN
 |[]=>[(z.f,[z])]
 |(a,l)::r=>if z.f=a then(a,l++[z])::r else(a,l)::OS z r
def uL(v:Nat):MN→List Ed
 |[]=>[]
 |(a,l)::r=>if v=a then l else uL v r
def OT(m:MN):List (PV×PV):=m.map fun x=>(.int .i64 x.1,.mE 3 (x.2.map Ed.pv))
theorem Y3(a b:Nat):bM (PV.int .i64 a).cells (PV.int .i64 b).cells=decide (a=b):=by
 have:((a:Int)==(b:Int))=decide (a=b):=by grind
 simp_all[PV.cells,bM,peq,amH]
theorem agV(v:Nat):∀m:MN,Nh 3 (.int .i64 v) (OT m)=some ((uL v m).map Ed.pv)
 |[]=>rfl
 |(a,l)::r=>by
  have ih:=agV v r;unfold OT at ih⊢;simp only[alu,Nh,uL,Y3];by_cases h:v=a
  ·simp[h,b9]
  simp_all
theorem S9(z:Ed):∀m:MN,dm (.int .i64 z.f) (.mE 3 ((uL z.f m).map Ed.pv++[z.pv])) (xy (.int .i64 z.f) (OT m))=OT (OS z m)
 |[]=>by rfl
 |(a,l)::r=>by
  have ih:=S9 z r;unfold OT at ih⊢;simp only[alu,xy,OS,uL,Y3];by_cases h:z.f=a
  ·subst h;simp[dm,Y3]
  simp_all[alw,IN,Wi,dm,Y3,alu]
theorem Lq(v:Nat)(z:Ed):∀m:MN,uL v (OS z m)=uL v m++(if z.f=v then[z]else[])
 |[]=>by simp only[OS,uL];grind
 |(a,l)::r=>by
  simp only[OS];by_cases h:z.f=a
  ·subst h;simp only[IT,uL];grind
  ·rw[acB h];simp only[uL];by_cases hv:v=a
   ·simp_all
   simp_all[acB,Lq]
def Dk(E:List Ed):MN:=E.foldl (fun m z=>OS z m) []
theorem Lr(E:List Ed)(z:Ed):Dk (E++[z])=OS z (Dk E):=by simp[Dk]
theorem Lt(v:Nat)(E:List Ed):uL v (Dk E)=E.filter fun y=>y.f==v:=by
 rw[←anb E];induction E.reverse with
 |nil=>rfl
 |cons z l ih=>grind [List.reverse_cons,Lr,Lq]
theorem agW(v:Nat):∀m:MN,ah 3 (bS (.int .i64 v) (.rs 0 []) (((OT m).map fun x=>x.1).zip ((OT m).map fun x=>x.2.pP)))=some ((uL v m).map Ed.pv)
 |[]=>by rfl
 |(a,l)::r=>by
  have ih:=agW v r;unfold OT at ih⊢;simp only[alu,anS,bS,Y3,uL];by_cases h:v=a
  ·simp[h,PV.pP,ah]
  simp_all
theorem MO(E:List Ed)(hE:E.length≤4096):gE [.rs 3 (E.map Ed.pv),.bool false]=some (.rm 3 ((OT (Dk E)).map fun x=>x.1) ((OT (Dk E)).map fun x=>x.2.pP)):=by
 have e0:ah 3 (.rs 3 (E.map Ed.pv))=some (E.map Ed.pv):=by rfl
 simp only[gE,mZ,e0,U,asBool];refine aK (fun k=>(false,E.map Ed.pv,((E.map Ed.pv).length:Int),(k:Int),OT (Dk (E.take k)),())) E.length (fun k hk rec=>?_) (fun rec=>?_) (by unfold rounds;omega) (by rfl)
 ·unfold jP;dsimp only;have hg:decide ((k:Int)<((E.map Ed.pv).length:Int))=true:=by simp;omega
  obtain⟨z,hz⟩:∃z,E[k]?=some z:=⟨_,AI hk⟩;have Gk:(E.map Ed.pv)[k]?=some z.pv:=by simp_all
  have SR:E.take (k+1)=E.take k++[z]:=by rw[anw,hz];rfl
  have hce:PV.agg [cell z.pv 0,cell z.pv 1,cell z.pv 2]=z.pv:=rfl;have hlen:((uL z.f (Dk (E.take k))).map Ed.pv++[z.pv]).length*24≤ag∧0<24:=by
   have:(uL z.f (Dk (E.take k))).length≤E.length:=by grind [Lt,Nat.le_trans,List.length_filter_le,List.length_take]
   grind [List.length_append,List.length_map,List.length_cons,List.length_nil,ag]
  rw[T0 hg,ab,Gk,U,acB (by simp)];have aj2:PV.agg [.int .i64 z.f,cell z.pv 1,cell z.pv 2]=z.pv:=rfl;simp only[ed0,Fv,U,agV,aj2,T0 hlen];grind [S9,Lr,af]
 simp[jP,acB,alT]
theorem Y4(E:List Ed)(n:Nat)(hn:n≤64)(hE:E.length≤4096)(h:∀y∈E,y.f<n∧y.t<n∧y.c≤1073741824):Gr E n ((OT (Dk E)).map fun x=>x.1) ((OT (Dk E)).map fun x=>x.2.pP):=⟨by omega,by omega,h,fun v _=>by rw[agW,Lt]⟩
end Go.Ab.Nw
