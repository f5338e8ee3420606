import Derived.Test.YtoaknfoobjnjgaaGreatAbLib
import Derived.Test.YtoaknfoobjnjgaaGreatSh4
set_option linter.all false
namespace Go.Ab.Nw
section
variable (w:Nat→Nat→Nat→Prop)
def FZ:Nat→Nat→Nat→Nat→Prop
 |0,i,j,L=>w i j L
 |k+1,i,j,L=>FZ k i j L∨∃A B,FZ k i k A∧FZ k k j B∧L=A+B
inductive iY:Nat→Nat→Nat→Prop
 |ze {i j c:Nat}:w i j c→iY i j c
 |snoc {i m j A c:Nat}:iY i m A→w m j c→iY i j (A+c)
end
section
variable {w:Nat→Nat→Nat→Prop}
variable{i j L:Nat}
theorem FZ.up{k:Nat}(h:FZ w k i j L):FZ w (k+1) i j L:=.inl h
theorem FZ.le{k k':Nat}(hk:k≤k')(h:FZ w k i j L):FZ w k' i j L:=by
 induction hk with
 |refl=>omega
 |step _ ih=>exact ih.up
theorem Df:∀(k:Nat){m i j A B:Nat},m<k→FZ w k i m A→FZ w k m j B→∃C,C≤A+B∧FZ w k i j C
 |0,_,_,_,_,_,h,_,_=>by omega
 |k+1,m,i,j,A,B,h,ha,hb=>by
  by_cases hm:m=k
  ·subst hm;have h1:∃A',A'≤A∧FZ w m i m A':=by
    rcases ha with ha|⟨X,Y,x,y,e⟩
    ·grind
    grind
   have h2:∃B',B'≤B∧FZ w m m j B':=by
    rcases hb with hb|⟨X,Y,x,y,e⟩
    ·grind
    grind
   obtain⟨A',a1,a2⟩:=h1;obtain⟨B',b1,b2⟩:=h2;exact⟨A'+B',by omega,.inr ⟨A',B',a2,b2,rfl⟩⟩
  ·have bK:m<k:=by omega
   rcases ha with ha|⟨X,Y,x,y,e⟩
   ·rcases hb with hb|⟨X',Y',x',y',e'⟩
    ·obtain⟨C,c1,c2⟩:=Df k bK ha hb;exact⟨C,c1,.inl c2⟩
    ·obtain⟨C,c1,c2⟩:=Df k bK ha x';exact⟨C+Y',by omega,.inr ⟨C,Y',c2,y',rfl⟩⟩
   ·rcases hb with hb|⟨X',Y',x',y',e'⟩
    ·obtain⟨C,c1,c2⟩:=Df k bK y hb;exact⟨X+C,by omega,.inr ⟨X,C,x,c2,rfl⟩⟩
    ·exact⟨X+Y',by omega,.inr ⟨X,Y',x,y',rfl⟩⟩
theorem iY.join{m A B:Nat}(h1:iY w i m A)(h2:iY w m j B):iY w i j (A+B):=by
 induction h2 with
 |ze h=>exact .snoc h1 h
 |snoc _ h ih=>rw[←aol];exact .snoc ih h
theorem FZ.walk:∀{k i j L:Nat},FZ w k i j L→iY w i j L
 |0,_,_,_,h=>.ze h
 |k+1,i,j,L,.inl h=>FZ.walk (k:=k) h
 |k+1,i,j,L,.inr ⟨A,B,h1,h2,e⟩=>by rw[e];exact(FZ.walk (k:=k) h1).join (FZ.walk (k:=k) h2)
theorem iY.via{n:Nat}(hn:∀i j c,w i j c→i<n)(h:iY w i j L):∃C,C≤L∧FZ w n i j C:=by
 induction h with
 |ze h=>exact⟨_,anz _,FZ.le (apM _) (show FZ w 0 _ _ _ from h)⟩
 |snoc _ h ih=>obtain⟨C,c1,c2⟩:=ih;obtain⟨D,d1,d2⟩:=Df n (hn _ _ _ h) c2 (FZ.le (apM _) (show FZ w 0 _ _ _ from h));grind
variable{w':Nat→Nat→Nat→Prop}
theorem iY.mono(hw:∀i j c,w i j c→w' i j c)(h:iY w i j L):iY w' i j L:=by
 induction h with
 |ze h=>exact .ze (hw _ _ _ h)
 |snoc _ h ih=>exact .snoc ih (hw _ _ _ h)
theorem iY.leq(hw:∀i j c,w i j c→∃c',c'≤c∧w' i j c')(h:iY w i j L):∃L',L'≤L∧iY w' i j L':=by
 induction h with
 |ze h=>obtain⟨c',h1,h2⟩:=hw _ _ _ h;exact⟨c',h1,.ze h2⟩
 |snoc _ h ih=>obtain⟨c',h1,h2⟩:=hw _ _ _ h;obtain⟨L',l1,l2⟩:=ih;exact⟨L'+c',by omega,.snoc l2 h2⟩
def TC(w:Nat→Nat→Nat→Prop)(i j:Nat)(o:Option Nat):Prop:=match o with
 |some L=>iY w i j L∧∀L',iY w i j L'→L≤L'
 |none=>∀L',¬iY w i j L'
theorem TC.unique{o o':Option Nat}(h:TC w i j o)(h':TC w i j o'):o=o':=by
 cases o with
 |none=>cases o' with
  |none=>rfl
  |some L=>exact absurd h'.1 (h L)
 |some L=>cases o' with
  |none=>exact absurd h.1 (h' L)
  |some L'=>rw[Nat.le_antisymm (h.2 _ h'.1) (h'.2 _ h.1)]
structure Fw(w:Nat→Nat→Nat→Prop)(inf:Nat)(n:Nat)(d:Nat→Nat→Nat):Prop where
 top:∀i j,i<n→j<n→d i j≤inf
 real:∀i j,i<n→j<n→d i j<inf→iY w i j (d i j)
def tY(w:Nat→Nat→Nat→Prop)(k i j:Nat)(x:Nat):Prop:=∀L,FZ w k i j L→x≤L
variable{d:Nat→Nat→Nat}
theorem adu{inf n k:Nat}(h:Fw w inf n d)(hi:i<n)(hj:j<n)(hk:k<n){x:Nat}(hx:x=min (d i j) (d i k+d k j)){d':Nat→Nat→Nat}(hd:∀a b,d' a b=if a=i∧b=j then x else d a b):Fw w inf n d'∧(∀a b,d' a b≤d a b)∧(tY w k i k (d i k)→tY w k k j (d k j)→tY w k i j (d i j)→tY w (k+1) i j (d' i j)):=by
 refine⟨⟨fun a b ha hb=>?_,fun a b ha hb bK=>?_⟩,fun a b=>?_,fun h1 h2 h3 L hL=>?_⟩
 ·rw[hd];split
  ·have:=h.top i j hi hj;omega
  ·exact h.top a b ha hb
 ·rw[hd]at bK⊢;split
  ·rename_i e;rw[BY e]at bK;obtain⟨rfl,rfl⟩:=e;by_cases hm:d a b≤d a k+d k b
   ·rw[show x=d a b by omega]at bK⊢;exact h.real a b ha hb bK
   ·have e2:x=d a k+d k b:=by omega
    rw[e2]at bK⊢;exact(h.real a k ha hk (by omega)).join (h.real k b hk hb (by omega))
  ·rename_i e;rw[IT e]at bK;exact h.real a b ha hb bK
 ·grind
 ·rw[hd,BY ⟨rfl,rfl⟩];rcases hL with hL|⟨A,B,a1,a2,e⟩
  ·have:=h3 _ hL;omega
  ·have:=h1 _ a1;have:=h2 _ a2;omega
theorem adw{inf n:Nat}(hn:∀i j c,w i j c→i<n)(h:Fw w inf n d)(hi:i<n)(hj:j<n)(hb:tY w n i j (d i j))(su:∀L,(∀L',iY w i j L'→L≤L')→iY w i j L→L<inf):TC w i j (if d i j<inf then some (d i j)else none):=by
 have low:∀L,iY w i j L→d i j≤L:=fun L hL=>by obtain⟨C,c1,c2⟩:=hL.via hn;exact anW (hb C c2) c1
 split
 ·rename_i bK;exact⟨h.real i j hi hj bK,low⟩
 ·rename_i G2;intro L hL;have key:∀m,(∃L,L≤m∧iY w i j L)→∃L,iY w i j L∧∀L',iY w i j L'→L≤L':=by
   intro m;induction m with
   |zero=>grind
   |succ m ih=>
    rintro⟨L,hl,hw⟩;by_cases he:∃L,L≤m∧iY w i j L
    ·exact ih he
    grind
  obtain⟨L0,h1,h2⟩:=key L ⟨L,anz _,hL⟩;grind
end
structure Nd where
 n:Nat
 len:Nat
 e:Nat
 num:Nat
 deriving DecidableEq,Inhabited
def DP(a b:Nd):Bool:=decide (a.len<b.len∨(a.len=b.len∧(a.e<b.e∨(a.e=b.e∧a.num<b.num))))
def xN(a b:Nd):Prop:=DP b a=false
theorem TD(a b:Nd):DP a b=true↔(a.len<b.len∨(a.len=b.len∧(a.e<b.e∨(a.e=b.e∧a.num<b.num)))):=by simp[DP]
theorem Dg(a b:Nd):xN a b↔¬(b.len<a.len∨(b.len=a.len∧(b.e<a.e∨(b.e=a.e∧b.num<a.num)))):=by unfold xN;rw[←TD];simp
theorem Ew(a:Nd):xN a a:=by rw[Dg];omega
theorem xO{a b c:Nd}(h:xN a b)(k:xN b c):xN a c:=by rw[Dg]at*;omega
theorem zK{a b:Nd}(h:DP a b=true):xN a b:=by grind [Dg,TD]
theorem Zw{a b:Nd}(h:xN a b):a.len≤b.len:=by rw[Dg]at h;omega
def ep(a:List Nd)(i:Nat):Nd:=a.getD i default
variable{a:List Nd}{i:Nat}
theorem Mw(h:i<a.length):a[i]?=some (ep a i):=by simp[ep,List.getD,h]
def swp(a:List Nd)(i k:Nat):List Nd:=(a.set i (ep a k)).set k (ep a i)
@[simp] theorem kA(a:List Nd)(i k:Nat):(swp a i k).length=a.length:=by simp[swp]
theorem afZ(a:List Nd)(i j:Nat)(x:Nd)(h:i<a.length):ep (a.set i x) j=if j=i then x else ep a j:=by unfold ep List.getD;grind
theorem pq(a:List Nd)(i k j:Nat)(hi:i<a.length)(hk:k<a.length):ep (swp a i k) j=if j=k then ep a i else if j=i then ep a k else ep a j:=by simp_all[swp,afZ]
theorem Ey{x:Nd}:x∈a↔∃i,i<a.length∧ep a i=x:=by
 rw[anI];constructor
 ·grind [Mw]
 ·rintro⟨i,hi,h⟩;exact⟨i,by rw[Mw hi,h]⟩
theorem Gf{k:Nat}(hi:i<a.length)(hk:k<a.length)(x:Nd):x∈swp a i k↔x∈a:=by
 rw[Ey,Ey];constructor
 ·rintro⟨j,hj,h⟩;rw[pq _ _ _ _ hi hk]at h;split at h
  ·exact⟨i,hi,h⟩
  ·split at h
   ·exact⟨k,hk,h⟩
   ·exact⟨j,by simpa using hj,h⟩
 ·rintro⟨j,hj,h⟩;by_cases e1:j=i
  ·subst e1;refine⟨k,by simpa using hk,?_⟩;rw[pq _ _ _ _ hi hk,BY rfl,h]
  ·by_cases e2:j=k
   ·subst e2;refine⟨i,by simpa using hi,?_⟩;rw[pq _ _ _ _ hi hk];simp_all
   ·exact⟨j,by simpa using hj,by simp_all[pq,IT]⟩
def Hp(a:List Nd):Prop:=∀j,0<j→j<a.length→xN (ep a ((j-1)/2)) (ep a j)
theorem Hp.min(h:Hp a):∀j,j<a.length→xN (ep a 0) (ep a j):=by
 intro j;induction j using Nat.strongRecOn with
 |ind j ih=>
  intro hj;by_cases h0:j=0
  ·subst h0;exact Ew _
  ·exact xO (ih ((j-1)/2) (by omega) (by omega)) (h j (by omega) hj)
def UpI(a:List Nd)(i:Nat):Prop:=(∀j,0<j→j<a.length→j≠i→xN (ep a ((j-1)/2)) (ep a j))∧∀c,0<c→c<a.length→(c-1)/2=i→0<i→xN (ep a ((i-1)/2)) (ep a c)
theorem UpI.done(h:UpI a i)(hi:i<a.length)(hs:i=0∨DP (ep a i) (ep a ((i-1)/2))=false):Hp a:=by
 intro j h0 hj;by_cases e:j=i
 ·subst e;rcases hs with hs|hs
  ·omega
  ·exact hs
 ·exact h.1 j h0 hj e
theorem UpI.step(h:UpI a i)(h0:0<i)(hi:i<a.length)(hb:DP (ep a i) (ep a ((i-1)/2))=true):UpI (swp a i ((i-1)/2)) ((i-1)/2):=by
 have hp:(i-1)/2<a.length:=by omega
 have hpi:(i-1)/2<i:=by omega
 obtain⟨p,NW⟩:∃p,p=(i-1)/2:=⟨_,rfl⟩;rw[←NW]at hp hpi hb⊢;have hle:=zK hb;refine⟨fun j j0 hj cy=>?_,fun c c0 hc hcp JT=>?_⟩
 ·rw[kA]at hj;rw[pq _ _ _ _ hi hp,pq _ _ _ _ hi hp,IT cy];by_cases e1:j=i
  ·simp_all
  ·rw[IT e1];by_cases e2:(j-1)/2=p
   ·rw[BY e2];have:=h.1 j j0 hj e1;grind [xO]
   ·rw[IT e2];by_cases e3:(j-1)/2=i
    ·rw[BY e3];have:=h.2 j j0 hj e3 h0;simp_all
    ·rw[IT e3];exact h.1 j j0 hj e1
 ·rw[kA]at hc;have hpp:(p-1)/2≠p∧(p-1)/2≠i:=by omega
  rw[pq _ _ _ _ hi hp,pq _ _ _ _ hi hp,IT hpp.1,IT hpp.2];have h1:=h.1 p JT hp (by omega);by_cases e1:c=p
  ·omega
  ·rw[IT e1];by_cases e2:c=i
   ·rw[BY e2];omega
   ·rw[IT e2];have:=h.1 c c0 hc e2;grind [xO]
theorem UpI.start(h:Hp a)(x:Nd):UpI (a++[x]) a.length:=by
 have Qk:∀j,j<a.length→ep (a++[x]) j=ep a j:=fun j hj=>by simp[ep,List.getD,aoz hj]
 refine⟨fun j j0 hj cy=>?_,fun c c0 hc hcp h0=>?_⟩
 ·have:j<a.length:=by simp at hj;omega
  rw[Qk _ (by omega),Qk _ this];exact h j j0 this
 ·simp at hc;omega
def DnI(a:List Nd)(i:Nat):Prop:=(∀j,0<j→j<a.length→(j-1)/2≠i→xN (ep a ((j-1)/2)) (ep a j))∧∀c,0<c→c<a.length→(c-1)/2=i→0<i→xN (ep a ((i-1)/2)) (ep a c)
theorem DnI.done(h:DnI a i)(hs:∀c,0<c→c<a.length→(c-1)/2=i→xN (ep a i) (ep a c)):Hp a:=by
 intro j h0 hj;by_cases e:(j-1)/2=i
 ·simp_all
 ·exact h.1 j h0 hj e
theorem DnI.step{k:Nat}(h:DnI a i)(hk:k<a.length)(hki:k=2*i+1∨k=2*i+2)(ahn:∀c,0<c→c<a.length→(c-1)/2=i→xN (ep a k) (ep a c))(hb:DP (ep a k) (ep a i)=true):DnI (swp a i k) k:=by
 have hi:i<a.length:=by omega
 have hle:=zK hb;have hpk:(k-1)/2=i:=by omega
 refine⟨fun j j0 hj cy=>?_,fun c c0 hc hcp hk0=>?_⟩
 ·rw[kA]at hj;rw[pq _ _ _ _ hi hk,pq _ _ _ _ hi hk,IT cy];by_cases e1:j=k
  ·simp_all
  ·rw[IT e1];by_cases e2:(j-1)/2=i
   ·grind
   ·rw[IT e2];by_cases e3:j=i
    ·rw[BY e3];have:=h.2 k (by omega) hk hpk (by omega);rw[e3];omega
    ·rw[IT e3];exact h.1 j j0 hj e2
 ·rw[kA]at hc;rw[pq _ _ _ _ hi hk,pq _ _ _ _ hi hk,hpk,IT (by omega),BY rfl,IT (by omega),IT (by omega)];have:=h.1 c c0 hc (by omega);simp_all
theorem DnI.start(h:Hp a)(cy:0<a.length):DnI ((swp a 0 (a.length-1)).take (a.length-1)) 0:=by
 have hl:((swp a 0 (a.length-1)).take (a.length-1)).length=a.length-1:=by simp
 have Qk:∀j,0<j→j<a.length-1→ep ((swp a 0 (a.length-1)).take (a.length-1)) j=ep a j:=fun j j0 hj=>by
  have:ep ((swp a 0 (a.length-1)).take (a.length-1)) j=ep (swp a 0 (a.length-1)) j:=by simp[ep,List.getD,aoO hj]
  rw[this,pq _ _ _ _ (by omega) (by omega),IT (by omega),IT (by omega)]
 refine⟨fun j j0 hj cy=>?_,fun c _ _ _ h0=>by omega⟩;rw[hl]at hj;rw[Qk j j0 hj,Qk _ (by omega) (by omega)];exact h j j0 (by omega)
theorem TE(cy:0<a.length)(y:Nd):(y∈(swp a 0 (a.length-1)).take (a.length-1)→y∈a)∧(y∈a→y=ep a 0∨y∈(swp a 0 (a.length-1)).take (a.length-1)):=by
 refine⟨fun h=>(Gf cy (by omega) y).1 (aox h),fun h=>?_⟩;have h:=(Gf (i:=0) (k:=a.length-1) cy (by omega) y).2 h;rw[Ey]at h;obtain⟨j,hj,e⟩:=h;rw[kA]at hj;by_cases hl:j=a.length-1
 ·simp_all[pq,BY]
 ·right;rw[anI];refine⟨j,?_⟩;rw[aoO (by omega),Mw (by simpa using hj),e]
theorem V7{S R A:Type}{body:S→(S→Option R)→Option R}(st:A→S)(I:A→Prop)(m:A→Nat)(fin:A→Option R→Prop)(h:∀a,I a→∀rec,(∃a',I a'∧m a'<m a∧body (st a) rec=rec (st a'))∨(∃r,fin a r∧body (st a) rec=r)):∀N a,I a→m a<N→∃a' r,I a'∧fin a' r∧bX body N (st a)=r:=by
 intro N;induction N with
 |zero=>omega
 |succ N ih=>
  intro a hI hm;simp only[bX];rcases h a hI (bX body N)with⟨a',h1,h2,h3⟩|⟨r,h1,h2⟩
  ·grind
  grind
def up:Nat→List Nd→Nat→List Nd
 |0,a,_=>a
 |f+1,a,i=>if 0<i∧DP (ep a i) (ep a ((i-1)/2))=true then up f (swp a i ((i-1)/2)) ((i-1)/2)else a
def push(a:List Nd)(x:Nd):List Nd:=up (a.length+1) (a++[x]) a.length
def KD(a:List Nd)(i:Nat):Nat:=if 2*i+1+1<a.length∧DP (ep a (2*i+1+1)) (ep a (2*i+1))=true then 2*i+1+1 else 2*i+1
def down:Nat→List Nd→Nat→List Nd
 |0,a,_=>a
 |f+1,a,i=>if a.length≤2*i+1 then a else if DP (ep a (KD a i)) (ep a i)=true then down f (swp a i (KD a i)) (KD a i)else a
def RL(a:List Nd):List Nd:=(swp a 0 (a.length-1)).take (a.length-1)
def rest(a:List Nd):List Nd:=down (a.length+1) (RL a) 0
theorem aeI:∀(f:Nat){a:List Nd}{i:Nat},i<f→i<a.length→UpI a i→Hp (up f a i)∧(up f a i).length=a.length∧∀x,x∈up f a i↔x∈a
 |0,_,_,h,_,_=>by omega
 |f+1,a,i,hf,hi,h=>by
  unfold up;split
  ·rename_i hc;have hp:(i-1)/2<a.length:=by omega
   obtain⟨h1,h2,h3⟩:=aeI f (a:=swp a i ((i-1)/2)) (i:=(i-1)/2) (by omega) (by rw[kA];omega) (h.step hc.1 hi hc.2);simp_all[kA,Gf]
  ·rename_i hc;refine⟨h.done hi ?_,rfl,fun x=>Iff.rfl⟩;grind
variable{a:List Nd}
theorem adx(h:Hp a)(x:Nd):Hp (push a x)∧(push a x).length=a.length+1∧∀y,y∈push a x↔y∈a∨y=x:=by simp_all[aeI,UpI.start,push]
theorem Zx{i:Nat}(h:¬a.length≤2*i+1):KD a i<a.length∧(KD a i=2*i+1∨KD a i=2*i+2)∧∀c,0<c→c<a.length→(c-1)/2=i→xN (ep a (KD a i)) (ep a c):=by
 unfold KD;split
 ·rename_i hc;refine⟨by omega,.inr rfl,fun c c0 hl hp=>?_⟩;have:c=2*i+1∨c=2*i+1+1:=by omega
  rcases this with rfl|rfl
  ·exact zK hc.2
  ·exact Ew _
 ·rename_i hc;refine⟨by omega,.inl rfl,fun c c0 hl hp=>?_⟩;have:c=2*i+1∨c=2*i+1+1:=by omega
  rcases this with rfl|rfl
  ·exact Ew _
  ·unfold xN;simp_all
theorem TF:∀(f:Nat){a:List Nd}{i:Nat},a.length≤f+i→DnI a i→Hp (down f a i)∧(down f a i).length=a.length∧∀x,x∈down f a i↔x∈a
 |0,a,i,hf,h=>⟨h.done fun c c0 hc hp=>by omega,rfl,fun x=>Iff.rfl⟩
 |f+1,a,i,hf,h=>by
  unfold down;split
  ·exact⟨h.done fun c c0 hc hp=>by omega,rfl,fun x=>Iff.rfl⟩
  ·rename_i hl;obtain⟨k1,k2,k3⟩:=Zx hl;split
   ·rename_i hb;obtain⟨h1,h2,h3⟩:=TF f (a:=swp a i (KD a i)) (i:=KD a i) (by rw[kA];omega) (h.step k1 k2 k3 hb);grind [kA,Gf]
   ·rename_i hb;refine⟨h.done fun c c0 hc hp=>xO ?_ (k3 c c0 hc hp),rfl,fun x=>Iff.rfl⟩;simp_all[xN,aor]
theorem My(h:Hp a)(cy:0<a.length):Hp (rest a)∧(rest a).length=a.length-1∧(∀y∈rest a,y∈a)∧(∀y∈a,y=ep a 0∨y∈rest a)∧∀y∈a,(ep a 0).len≤y.len:=by
 have hl:(RL a).length=a.length-1:=by simp[RL]
 obtain⟨h1,h2,h3⟩:=TF (a.length+1) (a:=RL a) (i:=0) (by omega) (DnI.start h cy);refine⟨h1,by unfold rest;omega,fun y hy=>?_,fun y hy=>?_,fun y hy=>?_⟩
 ·exact(TE cy y).1 ((h3 y).1 hy)
 ·rcases(TE cy y).2 hy with h|h
  ·exact .inl h
  ·exact .inr ((h3 y).2 h)
 ·obtain⟨j,hj,rfl⟩:=Ey.1 hy;exact Zw (h.min j hj)
structure Ed where
 f:Nat
 t:Nat
 c:Nat
 deriving DecidableEq,Inhabited
def ew(E:List Ed)(i j c:Nat):Prop:=(⟨i,j,c⟩:Ed)∈E
abbrev Lab:=Option (Nat×Nat)
abbrev qq:=Nat→Lab
def AW(o:qq)(v:Nat)(l:Lab):qq:=fun u=>if u=v then l else o u
def zL(E:List Ed)(o:qq):Nat:=E.countP fun y=>(o y.f).isNone
def Js(n:Nat)(o:qq):Nat:=(List.range n).countP fun v=>(o v).isSome
def Mz(E:List Ed)(s v L:Nat):Prop:=(v=s∧L=0)∨iY (ew E) s v L
structure DI(E:List Ed)(n s B:Nat)(o:qq)(pu:Nat)(H:List Nd):Prop where
 hp:Hp H
 node:∀x∈H,x.n<n
 real:∀x∈H,Mz E s x.n x.len
 lK:∀v L e,v<n→o v=some (L,e)→Mz E s v L∧∀L',Mz E s v L'→L≤L'
 front:∀u L e v c,u<n→o u=some (L,e)→(⟨u,v,c⟩:Ed)∈E→o v=none→∃x∈H,x.n=v∧x.len≤L+c
 src:o s=none→∃x∈H,x.n=s∧x.len=0
 Zy:∀x∈H,x.len≤B*Js n o∧x.e≤Js n o
 af0:∀v L e,v<n→o v=some (L,e)→L≤B*n∧e≤n
 cnt:pu+zL E o≤1+E.length
 af1:H.length≤pu
theorem TG(n:Nat)(o:qq):Js n o≤n:=by grind [Js,List.countP_le_length,List.range]
theorem Fz{A:Type}[DecidableEq A]{p q:A→Bool}{v:A}:∀{l:List A},l.Nodup→v∈l→(∀u,u≠v→p u=q u)→p v=false→q v=true→l.countP q=l.countP p+1
 |a::l,hn,hv,hpq,h0,h1=>by
  rw[aoU]at hn;rw[List.countP_cons,List.countP_cons];by_cases e:a=v
  ·grind [List.countP_congr]
  ·have NM:v∈l:=by grind
   rw[Fz hn.2 NM hpq h0 h1,hpq a e];omega
variable{o:qq}
theorem Zz{n:Nat}{v:Nat}{l:Nat×Nat}(hv:v<n)(h:o v=none):Js n (AW o v (some l))=Js n o+1:=Fz (p:=fun v=>(o v).isSome) (q:=fun u=>(AW o v (some l) u).isSome) (v:=v) apC (an0.2 hv) (fun u hu=>by simp[AW,hu]) (by simp[h]) (by simp[AW])
theorem DI.least{E:List Ed}{n s B:Nat}{pu:Nat}{H:List Nd}(h:DI E n s B o pu H)(hE:∀y∈E,y.f<n∧y.t<n){v L:Nat}(hv:o v=none)(hw:Mz E s v L):∃x∈H,x.len≤L:=by
 cases hs:o s with
 |none=>obtain⟨x,h1,_,h2⟩:=h.src hs;grind
 |some l=>
  obtain⟨Ls,es⟩:=l;rcases hw with⟨rfl,_⟩|hw
  ·rw[hs]at hv;cases hv
  have key:∀{v L:Nat},iY (ew E) s v L→o v=none→∃x∈H,x.len≤L:=by
   intro v L hw;induction hw with
   | @ze j c hc=>intro hv;have ob:s<n:=(hE _ hc).1;obtain⟨x,h1,_,h2⟩:=h.front s Ls es j c ob hs hc hv;have:=(h.lK s Ls es ob hs).2 0 (.inl ⟨rfl,rfl⟩);grind
   | @snoc m j A c hA hc ih=>
    intro hv;cases hm:o m with
    |none=>grind
    |some l=>obtain⟨Lm,em⟩:=l;have ob:m<n:=(hE _ hc).1;obtain⟨x,h1,_,h2⟩:=h.front m Lm em j c ob hm hc hv;have:=(h.lK m Lm em ob hm).2 A (.inr hA);grind
  exact key hw hv
theorem DI.skip{E:List Ed}{n s B:Nat}{pu:Nat}{H:List Nd}(h:DI E n s B o pu H)(cy:0<H.length)(uy:(o (ep H 0).n).isSome=true):DI E n s B o pu (rest H):=by
 obtain⟨r1,r2,r3,r4,r5⟩:=My h.hp cy;have other:∀x∈H,o x.n=none→x∈rest H:=fun x hx hn=>by grind
 refine⟨r1,fun x hx=>h.node x (r3 x hx),fun x hx=>h.real x (r3 x hx),h.lK,fun u L e v c hu ho he hv=>?_,fun hs=>?_,fun x hx=>h.Zy x (r3 x hx),h.af0,h.cnt,by rw[r2];have:=h.af1;omega⟩
 ·obtain⟨x,x1,x2,x3⟩:=h.front u L e v c hu ho he hv;grind
 ·obtain⟨x,x1,x2,x3⟩:=h.src hs;grind
def pV(o:qq)(x:Nd):List Ed→Nat→List Nd→Nat×List Nd
 |[],pu,H=>(pu,H)
 |z::es,pu,H=>if(o z.t).isNone=true then pV o x es (pu+1) (push H ⟨z.t,x.len+z.c,x.e+1,pu⟩)else pV o x es pu H
theorem Is{o:qq}{x:Nd}:∀{es:List Ed}{pu:Nat}{H:List Nd},Hp H→∃k,k≤es.length∧(pV o x es pu H).1=pu+k∧(pV o x es pu H).2.length=H.length+k∧Hp (pV o x es pu H).2∧(∀y∈(pV o x es pu H).2,y∈H∨∃z∈es,o z.t=none∧y.n=z.t∧y.len=x.len+z.c∧y.e=x.e+1)∧(∀y∈H,y∈(pV o x es pu H).2)∧∀z∈es,o z.t=none→∃y∈(pV o x es pu H).2,y.n=z.t∧y.len=x.len+z.c
 |[],pu,H,h=>⟨0,anz _,rfl,rfl,h,fun y hy=>.inl hy,fun y hy=>hy,fun z hz=>by cases hz⟩
 |z::es,pu,H,h=>by
  unfold pV;split
  ·rename_i hz;have hz:o z.t=none:=by simpa using hz
   obtain⟨p1,p2,p3⟩:=adx h ⟨z.t,x.len+z.c,x.e+1,pu⟩;obtain⟨k,k1,k2,k3,k4,k5,k6,k7⟩:=Is (o:=o) (x:=x) (es:=es) (pu:=pu+1) p1;refine⟨k+1,by simp;omega,by omega,by omega,k4,fun y hy=>?_,fun y hy=>k6 y ((p3 y).2 (.inl hy)),fun z' hz' hn=>?_⟩
   ·grind
   ·rcases anA.1 hz' with rfl|hz'
    ·exact⟨_,k6 _ ((p3 _).2 (.inr rfl)),rfl,rfl⟩
    ·exact k7 z' hz' hn
  ·rename_i hz;obtain⟨k,k1,k2,k3,k4,k5,k6,k7⟩:=Is (o:=o) (x:=x) (es:=es) (pu:=pu) h;refine⟨k,by simp;omega,k2,k3,k4,fun y hy=>?_,k6,fun z' hz' hn=>?_⟩
   ·simp_all
   grind
theorem ZA(E:List Ed)(o:qq)(v:Nat)(l:Nat×Nat)(h:o v=none):zL E o=zL E (AW o v (some l))+(E.filter fun y=>y.f==v).length:=by
 unfold zL;induction E with
 |nil=>rfl
 |cons y E ih=>grind [AW]
variable{E:List Ed}
theorem DI.settle{n s B:Nat}{o:qq}{pu:Nat}{H:List Nd}(h:DI E n s B o pu H)(hE:∀y∈E,y.f<n∧y.t<n∧y.c≤B)(cy:0<H.length)(DN:o (ep H 0).n=none):DI E n s B (AW o (ep H 0).n (some ((ep H 0).len,(ep H 0).e))) (pV (AW o (ep H 0).n (some ((ep H 0).len,(ep H 0).e))) (ep H 0) (E.filter fun y=>y.f==(ep H 0).n) pu (rest H)).1 (pV (AW o (ep H 0).n (some ((ep H 0).len,(ep H 0).e))) (ep H 0) (E.filter fun y=>y.f==(ep H 0).n) pu (rest H)).2∧(pV (AW o (ep H 0).n (some ((ep H 0).len,(ep H 0).e))) (ep H 0) (E.filter fun y=>y.f==(ep H 0).n) pu (rest H)).2.length+zL E (AW o (ep H 0).n (some ((ep H 0).len,(ep H 0).e)))<H.length+zL E o:=by
 obtain⟨r1,r2,r3,r4,r5⟩:=My h.hp cy;obtain⟨x,hx⟩:∃x,x=ep H 0:=⟨_,rfl⟩;rw[←hx]at DN r4 r5⊢;have HF:x∈H:=Ey.2 ⟨0,cy,hx.symm⟩;have hxn:=h.node x HF;obtain⟨o1,ho1⟩:∃o1,o1=AW o x.n (some (x.len,x.e)):=⟨_,rfl⟩;rw[←ho1];have oo:∀v,o1 v=if v=x.n then some (x.len,x.e)else o v:=fun v=>by rw[ho1];rfl
 have on:∀v,o1 v=none→v≠x.n∧o v=none:=fun v hv=>by grind
 obtain⟨k,k1,k2,k3,k4,k5,k6,k7⟩:=Is (o:=o1) (x:=x) (es:=E.filter fun y=>y.f==x.n) (pu:=pu) r1;have hs:Js n o1=Js n o+1:=by rw[ho1];exact Zz hxn DN
 have Kb:zL E o=zL E o1+(E.filter fun y=>y.f==x.n).length:=by grind [ZA]
 have mem:∀z,z∈(E.filter fun y=>y.f==x.n)↔z∈E∧z.f=x.n:=fun z=>by simp[anP]
 have go:∀z,z∈E→z.f=x.n→iY (ew E) s z.t (x.len+z.c):=fun z hz hf=>by
  have he:ew E x.n z.t z.c:=by
   unfold ew;have:(⟨x.n,z.t,z.c⟩:Ed)=z:=by rw[←hf]
   rw[this];omega
  rcases h.real x HF with⟨e1,e2⟩|hw
  ·rw[e2,aoy];rw[e1]at he;exact .ze he
  ·exact .snoc hw he
 have other:∀y∈H,y.n≠x.n→y∈(pV o1 x (E.filter fun y=>y.f==x.n) pu (rest H)).2:=fun y hy hn=>by grind
 refine⟨⟨k4,fun y hy=>?_,fun y hy=>?_,fun v L e hv ho=>?_,fun u L e v c hu ho he hv=>?_,fun hs'=>?_,fun y hy=>?_,fun v L e hv ho=>?_,?_,?_⟩,?_⟩
 ·rcases k5 y hy with h1|⟨z,z1,z2,z3,_⟩
  ·exact h.node y (r3 y h1)
  grind
 ·rcases k5 y hy with h1|⟨z,z1,z2,z3,z4,_⟩
  ·exact h.real y (r3 y h1)
  ·rw[z3,z4];exact .inr (go z ((mem z).1 z1).1 ((mem z).1 z1).2)
 ·rw[oo]at ho;split at ho
  ·rename_i e';simp only[tb,T0]at ho;obtain⟨rfl,rfl⟩:=ho;subst e';refine⟨h.real x HF,fun L' hL=>?_⟩;obtain⟨y,y1,y2⟩:=h.least (fun y hy=>⟨(hE y hy).1,(hE y hy).2.1⟩) DN hL;grind
  ·exact h.lK v L e hv ho
 ·obtain⟨v1,v2⟩:=on v hv;rw[oo]at ho;split at ho
  ·grind
  ·obtain⟨y,y1,y2,y3⟩:=h.front u L e v c hu ho he v2;grind
 ·obtain⟨v1,v2⟩:=on s hs';obtain⟨y,y1,y2,y3⟩:=h.src v2;grind
 ·rw[hs,Nat.mul_succ];rcases k5 y hy with h1|⟨z,z1,z2,z3,z4,z5⟩
  ·have:=h.Zy y (r3 y h1);omega
  ·have:=h.Zy x HF;grind
 ·rw[oo]at ho;split at ho
  ·simp only[tb,T0]at ho;obtain⟨rfl,rfl⟩:=ho;have h1:=h.Zy x HF;have h2:=TG n o;have h3:B*Js n o≤B*n:=aoV _ h2;omega
  ·exact h.af0 v L e hv ho
 ·have:=h.cnt;omega
 ·have:=h.af1;omega
 omega
theorem DI.start{n s B:Nat}(hs:s<n):DI E n s B (fun _=>none) 1 [⟨s,0,0,0⟩]:=by
 refine⟨fun j j0 hj=>by simp at hj;omega,fun x hx=>?_,fun x hx=>?_,fun v L e _ h=>(by cases h),fun u L e v c _ h=>(by cases h),fun _=>⟨⟨s,0,0,0⟩,by simp,rfl,rfl⟩,fun x hx=>?_,fun v L e _ h=>(by cases h),?_,by simp⟩
 ·simp_all
 ·simp at hx;subst hx;exact .inl ⟨rfl,rfl⟩
 ·simp_all
 simp[zL]
theorem DI.done{n s B:Nat}{o:qq}{pu:Nat}(h:DI E n s B o pu [])(hE:∀y∈E,y.f<n∧y.t<n∧y.c≤B){v:Nat}(hv:v<n):match o v with
 |some (L,_)=>L≤B*n∧Mz E s v L∧∀L',Mz E s v L'→L≤L'
 |none=>∀L',¬Mz E s v L':=by
 cases ho:o v with
 |some l=>obtain⟨L,e⟩:=l;exact⟨(h.af0 v L e hv ho).1,h.lK v L e hv ho⟩
 |none=>
  intro L' hL
  obtain⟨x,hx,_⟩:=h.least (fun y hy=>⟨(hE y hy).1,(hE y hy).2.1⟩) ho hL
  cases hx
set_option maxRecDepth 100000
def Nd.pv(x:Nd):PV:=.agg [.int .i64 x.n,.int .i64 x.len,.int .i64 x.e,.int .i64 x.num]
abbrev pQ(a:List Nd):List PV:=a.map Nd.pv
theorem nd0(x:Nd):cell x.pv 0=.int .i64 x.n:=rfl
theorem nd1(x:Nd):cell x.pv 1=.int .i64 x.len:=rfl
theorem nd2(x:Nd):cell x.pv 2=.int .i64 x.e:=rfl
theorem nd3(x:Nd):cell x.pv 3=.int .i64 x.num:=rfl
theorem ndE(x:Nd):PV.agg [cell x.pv 0,cell x.pv 1,cell x.pv 2,cell x.pv 3]=x.pv:=rfl
theorem eE{a:List Nd}{i:Nat}(h:i<a.length):(pQ a)[i]?=some (ep a i).pv:=by rw[AT,Mw h];rfl
theorem aid(a b c:PV):cell (.agg [a,b,c]) 0=a:=rfl
theorem af2(a b c:PV):cell (.agg [a,b,c]) 1=b:=rfl
theorem aie(a b c:PV):cell (.agg [a,b,c]) 2=c:=rfl
theorem ag3(a b c:PV):asAgg 3 (.agg [a,b,c])=some ():=rfl
theorem ady(a b:Nd):jW [.agg [cell a.pv 0,cell a.pv 1,cell a.pv 2],.agg [cell b.pv 0,cell b.pv 1,cell b.pv 2]]=some (.bool (decide (a.len<b.len∨(a.len=b.len∧a.e<b.e)))):=by
 simp only[jW,vO,ag3,aid,af2,aie,nd0,nd1,nd2,IS,U,asInt];by_cases h1:a.len<b.len
 ·simp[h1]
 ·by_cases h2:a.len=b.len
  ·simp[h2]
  grind
theorem wO(a:List Nd)(pu:Nat)(i k:Nat)(hi:i<a.length)(hk:k<a.length):aR [.rp [.fn 282 [],.rs 4 (pQ a),.int .i64 pu],.int .i64 i,.int .i64 k]=some (.bool (DP (ep a i) (ep a k))):=by
 have e0:ak 4 (PV.rs 4 (pQ a))=some (pQ a):=by rfl
 simp only[aR,eF,af2,aie,e0,U,asInt,IS,af,eE hi,eE hk,ady,asBool,nd3];grind [ep,DP]
theorem half(i:Nat)(h:0<i)(hi:i<4611686018427387904):IntKind.i64.wrap ((IntKind.i64.wrap ((i:Int)-1)).tdiv 2)=(((i-1)/2:Nat):Int):=by
 have e1:IntKind.i64.wrap ((i:Int)-1)=((i-1:Nat):Int):=by grind [bp]
 have e2:((i-1:Nat):Int).tdiv 2=(((i-1)/2:Nat):Int):=rfl;grind [bp]
theorem Gg{i:Nat}{es:List PV}(h:i<es.length):aC (i:Int) es.length:=⟨by omega,by omega⟩
theorem MA(a:List Nd)(i k:Nat):((pQ a).set i (ep a k).pv).set k (ep a i).pv=pQ (swp a i k):=by simp[swp,apq]
theorem TH(Bm:TY2→Option PV)(t1:PV)(es:List PV)(ln ix:Int)(pu:Nat)(out:List PV)(x0 x1 x2:PV):∀(f N:Nat)(a:List Nd)(i:Nat),i<f→f≤N→i<a.length→a.length<4611686018427387904→bX (ny Bm) N ((i:Int),t1,es,ln,ix,(pu:Int),out,x0,x1,x2,pQ a,())=Bm (t1,es,ln,IntKind.i64.wrap (ix+1),out,(pu:Int),x0,x1,x2,pQ (up f a i),())
 |0,_,_,_,h,_,_,_=>by omega
 |f+1,0,_,_,_,h,_,_=>by omega
 |f+1,N+1,a,i,hf,hN,hi,ha=>by
  simp only[bX];unfold ny up;by_cases h0:0<i
  ·have hp:(i-1)/2<a.length:=by omega
   have hg:decide ((i:Int)>0)=true:=by simp;omega
   simp only[hg,cond_true,half i h0 (by omega),wO a pu i ((i-1)/2) hi hp,U,asBool];by_cases hb:DP (ep a i) (ep a ((i-1)/2))=true
   ·have hl1:i<(pQ a).length:=by simpa using hi
    have hl2:(i-1)/2<(pQ a).length:=by omega
    have hl3:(i-1)/2<((pQ a).set i (ep a ((i-1)/2)).pv).length:=by simpa using hp
    have KE:((pQ a).set i (ep a ((i-1)/2)).pv)[(i-1)/2]?=some (ep a ((i-1)/2)).pv:=by rw[aod];rw[IT (by omega),eE hp]
    simp only[hb,IS,BY (Gg hl1),BY (Gg hl2),BY (Gg hl3),agY,eE hi,eE hp,U,ndE,KE,MA,h0,and_self];exact TH Bm t1 es ln ix pu out x0 x1 x2 f N (swp a i ((i-1)/2)) ((i-1)/2) (by omega) (by omega) (by rw[kA];omega) (by rw[kA];omega)
   simp_all
  grind
def u7(v:Nat):Lab→PV
 |none=>.agg [.int .i64 v,.int .i64 (-1),.int .i64 (-1)]
 |some (L,e)=>.agg [.int .i64 v,.int .i64 (L:Int),.int .i64 (e:Int)]
def eD(n:Nat)(o:qq):List PV:=(List.range n).map fun v=>u7 v (o v)
def Ed.pv(y:Ed):PV:=.agg [.int .i64 y.f,.int .i64 y.t,.int .i64 y.c]
theorem wP(n:Nat)(o:qq):(eD n o).length=n:=by simp[eD]
theorem wQ{n v:Nat}(o:qq)(h:v<n):(eD n o)[v]?=some (u7 v (o v)):=by simp[eD,h]
theorem V8{n v:Nat}(o:qq)(l:Nat×Nat)(h:v<n):(eD n o).set v (u7 v (some l))=eD n (AW o v (some l)):=by
 apply anX;intro i;rw[aod];by_cases e:v=i
 ·subst e;rw[BY rfl,BY (by rw[wP];omega),wQ _ h];simp[AW]
 ·rw[IT e];by_cases hi:i<n
  ·simp_all[wQ,AW,Ne.symm]
  simp_all[aoE,wP]
theorem aif(v:Nat)(l:Lab):∃z:Int,asInt .i64 (cell (u7 v l) 2)=some z∧(decide (z<0)=l.isNone)∧decide (z≥0)=l.isSome:=by
 cases l with
 |none=>exact⟨-1,rfl,rfl,rfl⟩
 |some p=>obtain⟨L,e⟩:=p;exact⟨e,rfl,by simp,by simp⟩
theorem ed1(y:Ed):cell y.pv 1=.int .i64 y.t:=rfl
theorem ed2(y:Ed):cell y.pv 2=.int .i64 y.c:=rfl
theorem Ja(n:Int):asInt .i64 (.int .i64 n)=some n:=by rfl
theorem KF(dI:PV×List PV×Int×List PV×Unit→Option PV)(t1:PV)(n:Nat)(o:qq)(x:Nd)(es:List Ed)(ht:∀z∈es,z.t<n)(hn:n<4294967296)(hx:x.len<4611686018427387904)(hxe:x.e<4611686018427387904)(hc:∀z∈es,z.c<4611686018427387904)(Nf:es.length<4611686018427387904):∀(m N k pu:Nat)(H:List Nd),m+k=es.length→m<N→pu+m<4294967296→H.length+m<4294967296→bX (dd bd dI) N (t1,es.map Ed.pv,((es.length:Nat):Int),(k:Int),eD n o,(pu:Int),.int .i64 x.n,.int .i64 x.len,.int .i64 x.e,pQ H,())=dI (t1,eD n o,((pV o x (es.drop k) pu H).1:Int),pQ (pV o x (es.drop k) pu H).2,())
 |_,0,_,_,_,_,h,_,_=>by omega
 |0,N+1,k,pu,H,hk,hN,hpu,hH=>by
  simp only[bX];unfold dd;dsimp only;have hg:decide ((k:Int)<((es.length:Nat):Int))=false:=by simp;omega
  rw[hg,aoW (by omega)];rfl
 |m+1,N+1,k,pu,H,hk,hN,hpu,hH=>by
  have ih:=KF dI t1 n o x es ht hn hx hxe hc Nf m N (k+1);simp only[bX];generalize bX (dd bd dI) N=rec at ih⊢;unfold dd;dsimp only;have kh:k<es.length:=by omega
  have hg:decide ((k:Int)<((es.length:Nat):Int))=true:=by simp;omega
  obtain⟨z,hz⟩:∃z,es[k]?=some z:=⟨_,ta kh⟩;have hzm:z∈es:=amq hz;have hzt:=ht z hzm;have G2:(es.map Ed.pv)[k]?=some z.pv:=by simp_all
  have aih:es.drop k=z::es.drop (k+1):=by grind [List.drop_eq_getElem_cons,List.getElem?_eq_getElem,Option.some.inj]
  obtain⟨w,w1,w2,w3⟩:=aif z.t (o z.t);have ob:aC (z.t:Int) (eD n o).length:=Gg (by rw[wP];omega);rw[aih,pV];simp only[hg,IS,af,G2,U,ed1,ed2,Ja,BY ob,agY,wQ o hzt,w1,w2];by_cases DN:(o z.t).isNone=true
  ·have e1:IntKind.i64.wrap ((x.len:Int)+(z.c:Int))=((x.len+z.c:Nat):Int):=by grind [bp]
   have e2:pQ H++[PV.agg [.int .i64 z.t,.int .i64 ((x.len+z.c:Nat):Int),.int .i64 ((x.e+1:Nat):Int),.int .i64 pu]]=pQ (H++[⟨z.t,x.len+z.c,x.e+1,pu⟩]):=by simp[pQ,Nd.pv]
   have e3:(pQ (H++[⟨z.t,x.len+z.c,x.e+1,pu⟩])).length=H.length+1:=by simp
   have e4:IntKind.i64.wrap (((H.length+1:Nat):Int)-1)=(H.length:Int):=by grind [bp]
   have cr:(H.length+1)*32≤aa∧0<32:=by unfold aa;omega
   simp only[DN,IS,e1,ah (show x.e<9223372036854775807 by omega),e2,e3,e4,BY cr,ah (show pu<9223372036854775807 by omega),lv];refine(TH rec t1 (es.map Ed.pv) ((es.length:Nat):Int) (k:Int) (pu+1) (eD n o) _ _ _ (H.length+1) rounds (H++[⟨z.t,x.len+z.c,x.e+1,pu⟩]) H.length (by omega) (by unfold rounds;omega) (by simp) (by simp;omega)).trans ?_;rw[ah (by omega)];rw[show up (H.length+1) (H++[⟨z.t,x.len+z.c,x.e+1,pu⟩]) H.length=push H ⟨z.t,x.len+z.c,x.e+1,pu⟩from rfl];refine ih (pu+1) _ (by omega) (by omega) (by omega) ?_;have:(push H ⟨z.t,x.len+z.c,x.e+1,pu⟩).length=H.length+1:=by
    unfold push;have key:∀(f:Nat)(a:List Nd)(i:Nat),(up f a i).length=a.length:=by
     intro f;induction f with
     |zero=>intro a i;rfl
     |succ f ih=>
      intro a i;unfold up;split
      ·rw[ih,kA]
      rfl
    rw[key];simp
   omega
  ·simp only[DN,tc,PS,ah (show k<9223372036854775807 by omega)];grind
structure Gr(E:List Ed)(n:Nat)(ks vs:List PV):Prop where
 small:n<4294967296
 len:E.length<1073741824
 node:∀y∈E,y.f<n∧y.t<n∧y.c≤1073741824
 look:∀v:Nat,v<n→ak 3 (bT (.int .i64 v) (.rs 0 []) (ks.zip vs))=some ((E.filter fun y=>y.f==v).map Ed.pv)
section
variable {E:List Ed} {n:Nat} {ks vs:List PV}
def labelled(o:qq)(x:Nd):qq:=AW o x.n (some (x.len,x.e))
def KR(dI:PV×List PV×Int×List PV×Unit→Option PV)(E:List Ed)(n:Nat)(ks vs:List PV)(o:qq)(x:Nd)(pu:Nat)(H:List Nd):Option PV:=
 if(o x.n).isSome=true then dI (.rm 3 ks vs,eD n o,(pu:Int),pQ H,())
 else dI (.rm 3 ks vs,eD n (labelled o x),((pV (labelled o x) x (E.filter fun y=>y.f==x.n) pu H).1:Int),pQ (pV (labelled o x) x (E.filter fun y=>y.f==x.n) pu H).2,())
structure Sm(n:Nat)(E:List Ed)(x:Nd)(pu:Nat)(H:List Nd):Prop where
 node:x.n<n
 len:x.len<4611686018427387904
 e:x.e<4611686018427387904
 pu:pu≤1073741824
 H:H.length≤1073741824
theorem AE(hG:Gr E n ks vs)(dI:PV×List PV×Int×List PV×Unit→Option PV)(o:qq)(x:Nd)(pu:Nat)(H:List Nd)(hS:Sm n E x pu H)(A:Int→PV→Int→Option PV):((asInt .i64 (.int .i64 x.n)).bind fun n23=>if aC n23 (eD n o).length then(eD n o)[n23.toNat]?.bind fun e24=>(asInt .i64 (cell e24 2)).bind fun n25=>if decide (n25≥0)=true then dI (.rm 3 ks vs,eD n o,(pu:Int),pQ H,())else(asInt .i64 (.int .i64 x.n)).bind fun n26=>if aC n26 (eD n o).length then(eD n o)[n26.toNat]?.bind fun e27=>(asInt .i64 (.int .i64 x.n)).bind fun n28=>cS 3 (.rm 3 ks vs) (A n26 e27 n28) fun al1 al2=>(ak 3 (bT (.int .i64 n28) (.rs 0 []) (al1.zip al2))).bind fun aii=>bd.run (dd bd dI) (.rm 3 ks vs,aii,(aii.length:Int),0,(eD n o).set n26.toNat (.agg [.int .i64 x.n,.int .i64 x.len,.int .i64 x.e]),(pu:Int),.int .i64 x.n,.int .i64 x.len,.int .i64 x.e,pQ H,())else none else none)=KR dI E n ks vs o x pu H:=by
 have ob:aC (x.n:Int) (eD n o).length:=Gg (by rw[wP];exact hS.node)
 obtain⟨w,w1,w2,w3⟩:=aif x.n (o x.n)
 simp only[Ja,U,BY ob,agY,wQ o hS.node,w1,w3,cS,IS,hG.look x.n hS.node,lv]
 unfold KR
 by_cases hs:(o x.n).isSome=true
 ·simp only[hs,IS]
 ·simp only[hs,tc,PS];have e1:(eD n o).set x.n (.agg [.int .i64 x.n,.int .i64 x.len,.int .i64 x.e])=eD n (labelled o x):=V8 o (x.len,x.e) hS.node;rw[e1];have hl:(E.filter fun y=>y.f==x.n).length≤E.length:=aob ..;have bu:∀z∈E.filter (fun y=>y.f==x.n),z∈E:=fun z hz=>(anP.1 hz).1;have h1:=hG.len;have h2:=hS.pu;have h3:=hS.H;have:=KF dI (.rm 3 ks vs) n (labelled o x) x (E.filter fun y=>y.f==x.n) (fun z hz=>(hG.node z (bu z hz)).2.1) hG.small hS.len hS.e (fun z hz=>by have:=(hG.node z (bu z hz)).2.2;omega) (by omega) (E.filter fun y=>y.f==x.n).length rounds 0 pu H (by omega) (by unfold rounds;omega) (by omega) (by omega);simp_all
theorem ZB{a:List Nd}{i:Nat}(h:2*i+1+1<a.length∧DP (ep a (2*i+1+1)) (ep a (2*i+1))=true):KD a i=2*i+1+1:=BY h
theorem V9{a:List Nd}{i:Nat}(h:¬(2*i+1+1<a.length∧DP (ep a (2*i+1+1)) (ep a (2*i+1))=true)):KD a i=2*i+1:=IT h
theorem KG(hG:Gr E n ks vs)(dI:PV×List PV×Int×List PV×Unit→Option PV)(o:qq)(x:Nd)(pu:Nat)(z1 z2 z3:Int):∀(f N:Nat)(a:List Nd)(i:Nat),a.length≤f+i→f<N→i<4294967296→Sm n E x pu a→bX (eu bd dI) N ((i:Int),.rm 3 ks vs,(pu:Int),z1,z2,z3,.int .i64 x.n,.int .i64 x.len,.int .i64 x.e,eD n o,pQ a,())=KR dI E n ks vs o x pu (down f a i)
 |_,0,_,_,_,h,_,_=>by omega
 |0,N+1,a,i,hf,hN,hi,hS=>by
  simp only[bX];generalize bX (eu bd dI) N=rec;unfold eu down;dsimp only;have e1:IntKind.i64.wrap (IntKind.i64.wrap (2*(i:Int))+1)=((2*i+1:Nat):Int):=by grind [bp]
  have hg:decide (((2*i+1:Nat):Int)≥((pQ a).length:Int))=true:=by simp;omega
  rw[e1,BY hg];exact AE hG dI o x pu a hS _
 |f+1,N+1,a,i,hf,hN,hi,hS=>by
  have ih:=KG hG dI o x pu z1 z2 z3 f N;simp only[bX];generalize bX (eu bd dI) N=rec at ih⊢;have e1:IntKind.i64.wrap (IntKind.i64.wrap (2*(i:Int))+1)=((2*i+1:Nat):Int):=by grind [bp]
  have e2:IntKind.i64.wrap (((2*i+1:Nat):Int)+1)=((2*i+1+1:Nat):Int):=ah (by omega);unfold eu down;dsimp only;rw[e1,e2];by_cases hl:a.length≤2*i+1
  ·have hg:decide (((2*i+1:Nat):Int)≥((pQ a).length:Int))=true:=by simp;omega
   rw[BY hg,BY hl];exact AE hG dI o x pu a hS _
  ·have hg:¬decide (((2*i+1:Nat):Int)≥((pQ a).length:Int))=true:=by simp;omega
   rw[IT hg,IT hl];have hlen:=hS.H;have oa:i<a.length:=by omega
   have hi1:i<(pQ a).length:=by simpa using oa
   obtain⟨k1,k2,_⟩:=Zx hl;have hk1:KD a i<(pQ a).length:=by simpa using k1
   have hk3:KD a i<((pQ a).set i (ep a (KD a i)).pv).length:=by simpa using k1
   have KE:((pQ a).set i (ep a (KD a i)).pv)[KD a i]?=some (ep a (KD a i)).pv:=by rw[aod,IT (by omega),eE k1]
   have fin:=ih (swp a i (KD a i)) (KD a i) (by rw[kA];omega) (by omega) (by omega) ⟨hS.node,hS.len,hS.e,hS.pu,by rw[kA];omega⟩;by_cases hc:2*i+1+1<a.length∧DP (ep a (2*i+1+1)) (ep a (2*i+1))=true
   ·have hk:=ZB hc;have hd:decide (((2*i+1+1:Nat):Int)<((pQ a).length:Int))=true:=by simp;omega
    rw[hd];rw[hk]at hk1 hk3 KE fin k1⊢;simp only[cond_true,wO a pu (2*i+1+1) (2*i+1) (by omega) (by omega),hc.2,U,asBool,IS,wO a pu (2*i+1+1) i k1 oa];by_cases hb:DP (ep a (2*i+1+1)) (ep a i)=true
    ·rw[BY hb]at*;simp only[hb,ag0,tc,PS,BY (Gg hi1),BY (Gg hk1),BY (Gg hk3),agY,eE oa,eE k1,U,ndE,KE,MA];omega
    ·rw[IT hb];have j4:(!DP (ep a (2*i+1+1)) (ep a i))=true:=by simpa using hb
     rw[BY j4];exact AE hG dI o x pu a hS _
   ·have hk:=V9 hc;have hd:(bif decide (((2*i+1+1:Nat):Int)<((pQ a).length:Int))then(aR [.rp [.fn 282 [],.rs 4 (pQ a),.int .i64 (pu:Int)],.int .i64 ((2*i+1+1:Nat):Int),.int .i64 ((2*i+1:Nat):Int)]).bind fun r53=>(asBool r53).bind fun b54=>some b54 else some false)=some false:=by
     by_cases h2:2*i+1+1<a.length
     ·have hd:decide (((2*i+1+1:Nat):Int)<((pQ a).length:Int))=true:=by simp;omega
      have hb:DP (ep a (2*i+1+1)) (ep a (2*i+1))=false:=by simp_all
      rw[hd,cond_true,wO a pu (2*i+1+1) (2*i+1) h2 (by omega),U,hb];rfl
     grind
    rw[hd];rw[hk]at hk1 hk3 KE fin k1⊢;simp only[U,asBool,tc,PS,wO a pu (2*i+1) i k1 oa];by_cases hb:DP (ep a (2*i+1)) (ep a i)=true
    ·rw[BY hb]at*;simp only[hb,ag0,tc,PS,BY (Gg hi1),BY (Gg hk1),BY (Gg hk3),agY,eE oa,eE k1,U,ndE,KE,MA];omega
    ·rw[IT hb];have j4:(!DP (ep a (2*i+1)) (ep a i))=true:=by simpa using hb
     rw[BY j4];exact AE hG dI o x pu a hS _
end
section
variable {E:List Ed} {n:Nat} {ks vs:List PV}
theorem Wa(hG:Gr E n ks vs)(dI:PV×List PV×Int×List PV×Unit→Option PV)(o:qq)(pu:Nat)(H:List Nd)(hS:∀x∈H,Sm n E x pu H):fL bd (.rm 3 ks vs,eD n o,(pu:Int),pQ H,()) dI=if H.length=0 then some (.rs 3 (eD n o))else KR dI E n ks vs o (ep H 0) pu (rest H):=by
 unfold fL;dsimp only;by_cases h0:H.length=0
 ·simp_all
 ·have hg:¬(((pQ H).length:Int)==0)=true:=by simp_all
  rw[IT hg,IT h0];have hx:ep H 0∈H:=Ey.2 ⟨0,by omega,rfl⟩;have U7:=hS _ hx;have hH:=U7.H;have hl:((pQ H).length:Int)=(H.length:Int):=by simp
  have e1:IntKind.i64.wrap ((H.length:Int)-1)=((H.length-1:Nat):Int):=by grind [bp]
  have i0:aC (0:Int) (pQ H).length:=Gg (i:=0) (by omega);have hl1:H.length-1<(pQ H).length:=by omega
  have hl3:H.length-1<((pQ H).set 0 (ep H (H.length-1)).pv).length:=by simp;omega
  have g0:(pQ H)[0]?=some (ep H 0).pv:=eE (by omega);have gl:(pQ H)[H.length-1]?=some (ep H (H.length-1)).pv:=eE (by omega);have g3:∃q,((pQ H).set 0 (ep H (H.length-1)).pv)[H.length-1]?=some q:=⟨_,ta hl3⟩;obtain⟨q,g3⟩:=g3;have z0:Int.toNat 0=0:=rfl;have lX:(0:Int)≤0∧0≤((H.length-1:Nat):Int)∧((H.length-1:Nat):Int)≤(((((pQ H).set 0 (ep H (H.length-1)).pv).set (H.length-1) (ep H 0).pv).length:Nat):Int):=by simp
  simp only[hl,e1,BY i0,z0,g0,U,BY (Gg hl1),agY,gl,ndE,BY (Gg hl3),g3,aqX,BY lX,aqx];simp only[nd0,nd1,nd2,MA,←aps,lv];rw[BY (by simp)];have:=KG hG dI o (ep H 0) pu 0 0 0 (H.length+1) rounds (RL H) 0 (by simp[RL];omega) (by unfold rounds;omega) (by omega) ⟨U7.node,U7.len,U7.e,U7.pu,by simp[RL];omega⟩;exact this
theorem DI.small{s B:Nat}{o:qq}{pu:Nat}{H:List Nd}(h:DI E n s B o pu H)(hG:Gr E n ks vs)(hB:B≤1073741824)(hn:n≤64):∀x∈H,Sm n E x pu H:=fun x hx=>by have h1:=h.Zy x hx;have h2:=TG n o;have h3:B*Js n o≤1073741824*64:=apf hB (by omega);have h4:=h.cnt;have h5:=h.af1;have h6:=hG.len;exact⟨h.node x hx,by omega,by omega,by omega,by omega⟩
theorem Wb(hG:Gr E n ks vs){s B:Nat}(hs:s<n)(hB:B≤1073741824)(hEB:∀y∈E,y.c≤B)(hn:n≤64):∃o pu,DI E n s B o pu []∧bd.run (fL bd) (.rm 3 ks vs,eD n (fun _=>none),1,[PV.agg [.int .i64 s,.int .i64 0,.int .i64 0,.int .i64 0]],())=some (.rs 3 (eD n o)):=by
 have hE:∀y∈E,y.f<n∧y.t<n∧y.c≤B:=fun y hy=>⟨(hG.node y hy).1,(hG.node y hy).2.1,hEB y hy⟩;have hlen:=hG.len;obtain⟨a,r,hI,⟨h0,hr⟩,vk⟩:=V7 (body:=fL bd) (A:=qq×Nat×List Nd) (fun a=>(PV.rm 3 ks vs,eD n a.1,(a.2.1:Int),pQ a.2.2,())) (fun a=>DI E n s B a.1 a.2.1 a.2.2) (fun a=>a.2.2.length+zL E a.1) (fun a r=>a.2.2=[]∧r=some (.rs 3 (eD n a.1))) (fun a hI dI=>by
  obtain⟨o,pu,H⟩:=a;have hI:DI E n s B o pu H:=hI;dsimp only;rw[Wa hG dI o pu H (hI.small hG hB hn)];by_cases hH:H.length=0
  ·simp_all
  ·left;rw[IT hH];have cy:0<H.length:=by omega
   unfold KR;by_cases uy:(o (ep H 0).n).isSome=true
   ·rw[BY uy];refine⟨(o,pu,rest H),hI.skip cy uy,?_,rfl⟩;have:=(My hI.hp cy).2.1;grind
   ·rw[IT uy];have DN:o (ep H 0).n=none:=by simpa using uy
    obtain⟨s1,s2⟩:=hI.settle hE cy DN;exact⟨(_,_,_),s1,s2,rfl⟩) rounds ((fun _=>none),1,[⟨s,0,0,0⟩]) (DI.start hs) (by
  grind [zL,List.countP_le_length,List.length_cons,List.length_nil,rounds])
 obtain⟨o,pu,H⟩:=a;dsimp only at h0 hr hI;subst h0;refine⟨o,pu,hI,?_⟩;rw[lv,←hr,←vk];rfl
theorem Wc(hG:Gr E n ks vs){s B:Nat}(hs:s<n)(hB:B≤1073741824)(hEB:∀y∈E,y.c≤B)(hn:n≤64):∃o pu,DI E n s B o pu []∧gW [.int .i64 n,.rm 3 ks vs,.int .i64 s]=some (.rs 3 (eD n o)):=by
 obtain⟨o,pu,hI,h⟩:=Wb hG hs hB hEB hn;refine⟨o,pu,hI,?_⟩;have cr:(0:Int)≤(n:Int)∧(n:Int)≤(n:Int)∧n*24≤aa∧0<24∧0<3:=by grind [aa]
 simp only[gW,rQ,Ja,U,cS,IS,BY cr,agY,aoc];have fill:∀k,k≤n→((List.range n).map fun v=>if v<k then u7 v none else PV.agg [.int .i64 0,.int .i64 0,.int .i64 0]).length=n:=fun k _=>by simp
 refine bh (fun k=>(PV.rm 3 ks vs,(s:Int),(n:Int),(k:Int),(List.range n).map (fun v=>if v<k then u7 v none else PV.agg [.int .i64 0,.int .i64 0,.int .i64 0]),())) n (fun k hk rec=>?_) (fun rec=>?_) (by unfold rounds;omega) ?_
 ·unfold iB;dsimp only;have hg:decide ((k:Int)<(n:Int))=true:=by simp;omega
  have ob:aC (k:Int) ((List.range n).map fun v=>if v<k then u7 v none else PV.agg [.int .i64 0,.int .i64 0,.int .i64 0]).length:=Gg (by simp_all);have eE:((List.range n).map fun v=>if v<k then u7 v none else PV.agg [.int .i64 0,.int .i64 0,.int .i64 0])[k]?=some (PV.agg [.int .i64 0,.int .i64 0,.int .i64 0]):=by simp[hk]
  have uy:((List.range n).map fun v=>if v<k then u7 v none else PV.agg [.int .i64 0,.int .i64 0,.int .i64 0]).set k (.agg [.int .i64 k,.int .i64 (-1),.int .i64 (-1)])=(List.range n).map fun v=>if v<k+1 then u7 v none else PV.agg [.int .i64 0,.int .i64 0,.int .i64 0]:=by
   apply anX;intro i;rw[aod];by_cases e:k=i
   ·subst e;simp[hk,u7]
   ·rw[IT e];by_cases hi:i<n
    ·simp only[AT,apD hi,No];grind
    simp_all
  rw[BY hg,BY ob,agY,eE,U,uy,ah (by omega)]
 ·unfold iB;dsimp only;have hg:¬decide ((n:Int)<(n:Int))=true:=by simp
  have e0:IntKind.i64.wrap ((1:Nat)-1:Int)=0:=by rfl
  have e1:IntKind.i64.wrap (0+1)=1:=by rfl
  have Va:((List.range n).map fun v=>if v<n then u7 v none else PV.agg [.int .i64 0,.int .i64 0,.int .i64 0])=eD n (fun _=>none):=by simp_all[eD,an2,BY]
  rw[IT hg,Va,e1];refine Eq.trans ?_ h;rfl
 ·congr 1;have:((List.range n).map fun v=>if v<0 then u7 v none else PV.agg [.int .i64 0,.int .i64 0,.int .i64 0])=List.replicate n (PV.agg [.int .i64 0,.int .i64 0,.int .i64 0]):=by apply anX;grind
  rw[this];rfl
end
theorem adz{S R:Type}{body:S→(S→Option R)→Option R}{s:S}{r:Option R}(h:∀rec,body s rec=r):bd.run body s=r:=bh (fun _=>s) 0 (fun k hk=>by omega) h (by decide) rfl
def u9(n k:Nat)(F:Nat→PV)(z:PV):List PV:=(List.range n).map fun v=>if v<k then F v else z
theorem Pa(n k:Nat)(F:Nat→PV)(z:PV):(u9 n k F z).length=n:=by simp[u9]
theorem Pb{n k:Nat}{F:Nat→PV}{z:PV}(hk:k<n):(u9 n k F z)[k]?=some z:=by simp[u9,hk]
theorem Pc{n k:Nat}{F:Nat→PV}{z:PV}(hk:k<n):(u9 n k F z).set k (F k)=u9 n (k+1) F z:=by
 apply anX;intro i;rw[aod];by_cases e:k=i
 ·subst e;simp[u9,hk]
 ·rw[IT e];unfold u9;grind
theorem KH(n:Nat)(F:Nat→PV)(z:PV):u9 n 0 F z=List.replicate n z:=by unfold u9;apply anX;grind
theorem Pd(n:Nat)(F:Nat→PV)(z:PV):u9 n n F z=(List.range n).map F:=by simp_all[u9,an2,BY]
def MB:Lab→Int
 |none=> -1
 |some (L,_)=>L
theorem al3(v:Nat)(l:Lab):asInt .i64 (cell (u7 v l) 1)=some (MB l):=by
 cases l with
 |none=>rfl
 |some p=>rfl
theorem RM(n:Nat)(hn:n≤64)(o:qq):jO [.rs 3 (eD n o)]=some (.rs 1 ((List.range n).map fun v=>.int .i64 (MB (o v)))):=by
 have e0:ak 3 (.rs 3 (eD n o))=some (eD n o):=by rfl
 have cr:(0:Int)≤((n:Nat):Int)∧((n:Nat):Int)≤((n:Nat):Int)∧n*8≤aa∧0<8∧0<1:=by grind [aa]
 simp only[jO,qt,e0,U,wP,agY,BY cr];refine bh (fun k=>(eD n o,(n:Int),(k:Int),u9 n k (fun v=>.int .i64 (MB (o v))) (.int .i64 0),())) n (fun k hk rec=>?_) (fun rec=>?_) (by unfold rounds;omega) ?_
 ·unfold l8;dsimp only;have hg:decide ((k:Int)<(n:Int))=true:=by simp;omega
  rw[BY hg,af,wQ o hk,U,al3,U,BY (Gg (by rw[Pa];omega)),agY,Pb hk,U,ah (by omega)];simp_all[Pc,MB]
 ·simp[l8,IT,Pd]
 ·rw[KH];rfl
theorem ZC(i n:Nat)(h:i<n):dL [.int .i64 i,.rp [.int .i64 n]]=some (.bool false):=by
 have h1:decide ((i:Int)<0)=false:=by simp
 have h2:decide ((i:Int)≥(n:Int))=false:=by simp;omega
 simp only[dL,qi,Ja,U,h1,cond_false,h2]
theorem ed0(y:Ed):cell y.pv 0=.int .i64 y.f:=rfl
theorem ZD(E:List Ed)(n:Nat)(hn:n≤64)(hE:E.length≤4096)(h:∀y∈E,y.f<n∧y.t<n∧y.c≤1073741824):lL [.int .i64 n,.rs 3 (E.map Ed.pv),.rs 0 []]=some (.int .i64 0):=by
 have e0:ak 3 (.rs 3 (E.map Ed.pv))=some (E.map Ed.pv):=by rfl
 have e1:ak 1 (.rs 0 [])=some []:=by rfl
 have h1:decide ((n:Int)<0)=false:=by simp
 have h2:decide ((n:Int)>64)=false:=by simp;omega
 have h3:¬decide (((E.map Ed.pv).length:Int)>4096)=true:=by simp;omega
 simp only[lL,tZ,Ja,e0,e1,U,h1,h2,cond_false,tc,PS,IT h3];refine bh (fun k=>(([]:List PV),E.map Ed.pv,((E.map Ed.pv).length:Int),(k:Int),(n:Int),())) E.length (fun k hk rec=>?_) (fun rec=>?_) (by unfold rounds;omega) rfl
 ·unfold pw;dsimp only;have hg:decide ((k:Int)<((E.map Ed.pv).length:Int))=true:=by simp;omega
  obtain⟨z,hz⟩:∃z,E[k]?=some z:=⟨_,ta hk⟩;have G2:(E.map Ed.pv)[k]?=some z.pv:=by simp_all
  obtain⟨a1,a2,a3⟩:=h z (amq hz);have h4:decide ((z.c:Int)<0)=false:=by simp
  have h5:decide ((z.c:Int)>1073741824)=false:=by simp;omega
  simp only[hg,IS,af,G2,U,ed0,ed1,ed2,Ja,ZC _ _ a1,ZC _ _ a2,asBool,cond_false,tc,PS,h4,h5,ah (show k<9223372036854775807 by omega)]
 simp[pw,IT,adz,va]
abbrev MC:=List (Nat×List Ed)
def Pe(z:Ed):MC→MC
 |[]=>[(z.f,[z])]
 |(a,l)::r=>if z.f=a then(a,l++[z])::r else(a,l)::Pe z r
def ua(v:Nat):MC→List Ed
 |[]=>[]
 |(a,l)::r=>if v=a then l else ua v r
def Pf(m:MC):List (PV×PV):=m.map fun x=>(.int .i64 x.1,.jr 3 (x.2.map Ed.pv))
theorem ZE(a b:Nat):bR (PV.int .i64 a).cells (PV.int .i64 b).cells=decide (a=b):=by
 have:((a:Int)==(b:Int))=decide (a=b):=by grind
 simp_all[PV.cells,bR,peq,apd]
theorem aij(v:Nat):∀m:MC,Nn 3 (.int .i64 v) (Pf m)=some ((ua v m).map Ed.pv)
 |[]=>rfl
 |(a,l)::r=>by
  have ih:=aij v r;unfold Pf at ih⊢;simp only[anB,Nn,ua,ZE];by_cases h:v=a
  ·simp[h,bW]
  simp_all
theorem TI(z:Ed):∀m:MC,dr (.int .i64 z.f) (.jr 3 ((ua z.f m).map Ed.pv++[z.pv])) (wg (.int .i64 z.f) (Pf m))=Pf (Pe z m)
 |[]=>by rfl
 |(a,l)::r=>by
  have ih:=TI z r;unfold Pf at ih⊢;simp only[anB,wg,Pe,ua,ZE];by_cases h:z.f=a
  ·subst h;simp[dr,ZE]
  simp_all[anJ,tc,PS,dr,ZE,anB]
theorem KI(v:Nat)(z:Ed):∀m:MC,ua v (Pe z m)=ua v m++(if z.f=v then[z]else[])
 |[]=>by simp only[Pe,ua];grind
 |(a,l)::r=>by
  simp only[Pe];by_cases h:z.f=a
  ·subst h;simp only[IS,ua];grind
  ·rw[IT h];simp only[ua];by_cases hv:v=a
   ·simp_all
   simp_all[IT,KI]
def Cd(E:List Ed):MC:=E.foldl (fun m z=>Pe z m) []
theorem KJ(E:List Ed)(z:Ed):Cd (E++[z])=Pe z (Cd E):=by simp[Cd]
theorem KK(v:Nat)(E:List Ed):ua v (Cd E)=E.filter fun y=>y.f==v:=by
 rw[←apt E];induction E.reverse with
 |nil=>rfl
 |cons z l ih=>grind [List.reverse_cons,KJ,KI]
theorem aik(v:Nat):∀m:MC,ak 3 (bT (.int .i64 v) (.rs 0 []) (((Pf m).map fun x=>x.1).zip ((Pf m).map fun x=>x.2.pW)))=some ((ua v m).map Ed.pv)
 |[]=>by rfl
 |(a,l)::r=>by
  have ih:=aik v r;unfold Pf at ih⊢;simp only[anB,List.zip_cons_cons,bT,ZE,ua];by_cases h:v=a
  ·simp[h,PV.pW,ak]
  simp_all
theorem MD(E:List Ed)(hE:E.length≤4096):gX [.rs 3 (E.map Ed.pv),.bool false]=some (.rm 3 ((Pf (Cd E)).map fun x=>x.1) ((Pf (Cd E)).map fun x=>x.2.pW)):=by
 have e0:ak 3 (.rs 3 (E.map Ed.pv))=some (E.map Ed.pv):=by rfl
 simp only[gX,nA,e0,U,asBool];refine bh (fun k=>(false,E.map Ed.pv,((E.map Ed.pv).length:Int),(k:Int),Pf (Cd (E.take k)),())) E.length (fun k hk rec=>?_) (fun rec=>?_) (by unfold rounds;omega) (by rfl)
 ·unfold j7;dsimp only;have hg:decide ((k:Int)<((E.map Ed.pv).length:Int))=true:=by simp;omega
  obtain⟨z,hz⟩:∃z,E[k]?=some z:=⟨_,ta hk⟩;have G2:(E.map Ed.pv)[k]?=some z.pv:=by simp_all
  have htk:E.take (k+1)=E.take k++[z]:=by rw[aqh,hz];rfl
  have Xr:PV.agg [cell z.pv 0,cell z.pv 1,cell z.pv 2]=z.pv:=rfl;have hlen:((ua z.f (Cd (E.take k))).map Ed.pv++[z.pv]).length*24≤aa∧0<24:=by
   have:(ua z.f (Cd (E.take k))).length≤E.length:=by grind [KK,Nat.le_trans,List.length_filter_le,List.length_take]
   grind [List.length_append,List.length_map,List.length_cons,List.length_nil,aa]
  rw[BY hg,af,G2,U,IT (by simp)];have al4:PV.agg [.int .i64 z.f,cell z.pv 1,cell z.pv 2]=z.pv:=rfl;simp only[ed0,Ja,U,aij,al4,BY hlen];grind [TI,KJ,ah]
 simp[j7,IT,aoe]
theorem ZF(E:List Ed)(n:Nat)(hn:n≤64)(hE:E.length≤4096)(h:∀y∈E,y.f<n∧y.t<n∧y.c≤1073741824):Gr E n ((Pf (Cd E)).map fun x=>x.1) ((Pf (Cd E)).map fun x=>x.2.pW):=⟨by omega,by omega,h,fun v _=>by rw[aik,KK]⟩
end Go.Ab.Nw
