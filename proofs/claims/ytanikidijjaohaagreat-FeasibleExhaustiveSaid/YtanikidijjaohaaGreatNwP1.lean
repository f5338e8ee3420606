import Derived.Test.YtanikidijjaohaaGreatAbLib
import Derived.Test.YtanikidijjaohaaGreatSh2
namespace Go.Ab.Nw
section
variable (w:Nat→Nat→Nat→Prop)
def D7:Nat→Nat→Nat→Nat→Prop
 |0,i,j,L=>w i j L
 |k+1,i,j,L=>D7 k i j L∨∃A B,D7 k i k A∧D7 k k j B∧L=A+B
inductive lI:Nat→Nat→Nat→Prop
 |GO {i j c:Nat}:w i j c→lI i j c
 |snoc {i m j A c:Nat}:lI i m A→w m j c→lI i j (A+c)
end
section
variable {w:Nat→Nat→Nat→Prop}
variable{i j L:Nat}
theorem D7.up{k:Nat}(h:D7 w k i j L):D7 w (k+1) i j L:=.inl h
theorem D7.le{k k':Nat}(hk:k≤k')(h:D7 w k i j L):D7 w k' i j L:=by
 induction hk with
 |refl=>exact h
 |step _ ih=>exact ih.up
theorem BC:∀(k:Nat){m i j A B:Nat},m<k→D7 w k i m A→D7 w k m j B→∃C,C≤A+B∧D7 w k i j C
 |0,_,_,_,_,_,h,_,_=>by omega
 |k+1,m,i,j,A,B,h,ha,hb=>by
  by_cases hm:m=k
  ·subst hm;have h1:∃A',A'≤A∧D7 w m i m A':=by
    rcases ha with ha|⟨X,Y,x,y,e⟩
    ·exact⟨A,ajC _,ha⟩
    ·exact⟨X,by omega,x⟩
   have h2:∃B',B'≤B∧D7 w m m j B':=by
    rcases hb with hb|⟨X,Y,x,y,e⟩
    ·exact⟨B,ajC _,hb⟩
    ·exact⟨Y,by omega,y⟩
   obtain⟨A',a1,a2⟩:=h1;obtain⟨B',b1,b2⟩:=h2;exact⟨A'+B',by omega,.inr ⟨A',B',a2,b2,rfl⟩⟩
  ·have cd:m<k:=by omega
   rcases ha with ha|⟨X,Y,x,y,e⟩
   ·rcases hb with hb|⟨X',Y',x',y',e'⟩
    ·obtain⟨C,c1,c2⟩:=BC k cd ha hb;exact⟨C,c1,.inl c2⟩
    ·obtain⟨C,c1,c2⟩:=BC k cd ha x';exact⟨C+Y',by omega,.inr ⟨C,Y',c2,y',rfl⟩⟩
   ·rcases hb with hb|⟨X',Y',x',y',e'⟩
    ·obtain⟨C,c1,c2⟩:=BC k cd y hb;exact⟨X+C,by omega,.inr ⟨X,C,x,c2,rfl⟩⟩
    ·exact⟨X+Y',by omega,.inr ⟨X,Y',x,y',rfl⟩⟩
theorem lI.join{m A B:Nat}(h1:lI w i m A)(h2:lI w m j B):lI w i j (A+B):=by
 induction h2 with
 |GO h=>exact .snoc h1 h
 |snoc _ h ih=>rw[←akl];exact .snoc ih h
theorem D7.walk:∀{k i j L:Nat},D7 w k i j L→lI w i j L
 |0,_,_,_,h=>.GO h
 |k+1,i,j,L,.inl h=>D7.walk (k:=k) h
 |k+1,i,j,L,.inr ⟨A,B,h1,h2,e⟩=>by rw[e];exact(D7.walk (k:=k) h1).join (D7.walk (k:=k) h2)
theorem lI.via{n:Nat}(hn:∀i j c,w i j c→i<n)(h:lI w i j L):∃C,C≤L∧D7 w n i j C:=by
 induction h with
 |GO h=>exact⟨_,ajC _,D7.le (ama _) (show D7 w 0 _ _ _ from h)⟩
 |snoc _ h ih=>obtain⟨C,c1,c2⟩:=ih;obtain⟨D,d1,d2⟩:=BC n (hn _ _ _ h) c2 (D7.le (ama _) (show D7 w 0 _ _ _ from h));exact⟨D,by omega,d2⟩
variable{w':Nat→Nat→Nat→Prop}
theorem lI.mono(hw:∀i j c,w i j c→w' i j c)(h:lI w i j L):lI w' i j L:=by
 induction h with
 |GO h=>exact .GO (hw _ _ _ h)
 |snoc _ h ih=>exact .snoc ih (hw _ _ _ h)
theorem lI.leq(hw:∀i j c,w i j c→∃c',c'≤c∧w' i j c')(h:lI w i j L):∃L',L'≤L∧lI w' i j L':=by
 induction h with
 |GO h=>obtain⟨c',h1,h2⟩:=hw _ _ _ h;exact⟨c',h1,.GO h2⟩
 |snoc _ h ih=>obtain⟨c',h1,h2⟩:=hw _ _ _ h;obtain⟨L',l1,l2⟩:=ih;exact⟨L'+c',by omega,.snoc l2 h2⟩
def Ts(w:Nat→Nat→Nat→Prop)(i j:Nat)(o:Option Nat):Prop:=match o with
 |some L=>lI w i j L∧∀L',lI w i j L'→L≤L'
 |none=>∀L',¬lI w i j L'
theorem Ts.unique{o o':Option Nat}(h:Ts w i j o)(h':Ts w i j o'):o=o':=by
 cases o with
 |none=>cases o' with
  |none=>rfl
  |some L=>exact absurd h'.1 (h L)
 |some L=>cases o' with
  |none=>exact absurd h.1 (h' L)
  |some L'=>rw[amK (h.2 _ h'.1) (h'.2 _ h.1)]
structure Fw(w:Nat→Nat→Nat→Prop)(inf:Nat)(n:Nat)(d:Nat→Nat→Nat):Prop where
 top:∀i j,i<n→j<n→d i j≤inf
 real:∀i j,i<n→j<n→d i j<inf→lI w i j (d i j)
def sT(w:Nat→Nat→Nat→Prop)(k i j:Nat)(x:Nat):Prop:=∀L,D7 w k i j L→x≤L
variable{d:Nat→Nat→Nat}
theorem aaL{inf n k:Nat}(h:Fw w inf n d)(hi:i<n)(hj:j<n)(hk:k<n){x:Nat}(hx:x=min (d i j) (d i k+d k j)){d':Nat→Nat→Nat}(hd:∀a b,d' a b=if a=i∧b=j then x else d a b):Fw w inf n d'∧(∀a b,d' a b≤d a b)∧(sT w k i k (d i k)→sT w k k j (d k j)→sT w k i j (d i j)→sT w (k+1) i j (d' i j)):=by
 refine⟨⟨fun a b ha hb=>?_,fun a b ha hb cd=>?_⟩,fun a b=>?_,fun h1 h2 h3 L hL=>?_⟩
 ·rw[hd];split
  ·have:=h.top i j hi hj;omega
  ·exact h.top a b ha hb
 ·rw[hd]at cd⊢;split
  ·rename_i e;rw[BK e]at cd;obtain⟨rfl,rfl⟩:=e;by_cases hm:d a b≤d a k+d k b
   ·rw[show x=d a b by omega]at cd⊢;exact h.real a b ha hb cd
   ·have e2:x=d a k+d k b:=by omega
    rw[e2]at cd⊢;exact(h.real a k ha hk (by omega)).join (h.real k b hk hb (by omega))
  ·rename_i e;rw[IN e]at cd;exact h.real a b ha hb cd
 ·rw[hd];split
  ·rename_i e;obtain⟨rfl,rfl⟩:=e;omega
  ·exact ajC _
 ·rw[hd,BK ⟨rfl,rfl⟩];rcases hL with hL|⟨A,B,a1,a2,e⟩
  ·have:=h3 _ hL;omega
  ·have:=h1 _ a1;have:=h2 _ a2;omega
theorem aaM{inf n:Nat}(hn:∀i j c,w i j c→i<n)(h:Fw w inf n d)(hi:i<n)(hj:j<n)(hb:sT w n i j (d i j))(qd:∀L,(∀L',lI w i j L'→L≤L')→lI w i j L→L<inf):Ts w i j (if d i j<inf then some (d i j)else none):=by
 have low:∀L,lI w i j L→d i j≤L:=fun L hL=>by obtain⟨C,c1,c2⟩:=hL.via hn;exact ajP (hb C c2) c1
 split
 ·rename_i cd;exact⟨h.real i j hi hj cd,low⟩
 ·rename_i Hf;intro L hL;have key:∀m,(∃L,L≤m∧lI w i j L)→∃L,lI w i j L∧∀L',lI w i j L'→L≤L':=by
   intro m;induction m with
   |zero=>rintro⟨L,hl,hw⟩;exact⟨L,hw,fun L' _=>by omega⟩
   |succ m ih=>
    rintro⟨L,hl,hw⟩;by_cases he:∃L,L≤m∧lI w i j L
    ·exact ih he
    ·refine⟨L,hw,fun L' hw'=>?_⟩;have:¬L'≤m:=fun hle=>he ⟨L',hle,hw'⟩;omega
  obtain⟨L0,h1,h2⟩:=key L ⟨L,ajC _,hL⟩;have:=qd L0 h2 h1;have:=low L0 h1;omega
end
structure Nd where
 n:Nat
 len:Nat
 e:Nat
 num:Nat
 deriving DecidableEq,Inhabited
def Eu(a b:Nd):Bool:=decide (a.len<b.len∨(a.len=b.len∧(a.e<b.e∨(a.e=b.e∧a.num<b.num))))
def wv(a b:Nd):Prop:=Eu b a=false
theorem Tu(a b:Nd):Eu a b=true↔(a.len<b.len∨(a.len=b.len∧(a.e<b.e∨(a.e=b.e∧a.num<b.num)))):=by simp[Eu]
theorem BD(a b:Nd):wv a b↔¬(b.len<a.len∨(b.len=a.len∧(b.e<a.e∨(b.e=a.e∧b.num<a.num)))):=by unfold wv;rw[←Tu];simp
theorem CS(a:Nd):wv a a:=by rw[BD];omega
theorem wx{a b c:Nd}(h:wv a b)(k:wv b c):wv a c:=by rw[BD]at*;omega
theorem yt{a b:Nd}(h:Eu a b=true):wv a b:=by rw[BD];rw[Tu]at h;omega
theorem Yz{a b:Nd}(h:wv a b):a.len≤b.len:=by rw[BD]at h;omega
def dQ(a:List Nd)(i:Nat):Nd:=a.getD i default
variable{a:List Nd}{i:Nat}
theorem Ks(h:i<a.length):a[i]?=some (dQ a i):=by simp[dQ,List.getD,h]
def swp(a:List Nd)(i k:Nat):List Nd:=(a.set i (dQ a k)).set k (dQ a i)
@[simp] theorem jH(a:List Nd)(i k:Nat):(swp a i k).length=a.length:=by simp[swp]
theorem YA(a:List Nd)(i j:Nat)(x:Nd)(h:i<a.length):dQ (a.set i x) j=if j=i then x else dQ a j:=by
 unfold dQ List.getD;rw[aj6];by_cases e:i=j
 ·subst e;simp[h]
 ·rw[IN e,IN fun h=>e h.symm]
theorem nY(a:List Nd)(i k j:Nat)(hi:i<a.length)(hk:k<a.length):dQ (swp a i k) j=if j=k then dQ a i else if j=i then dQ a k else dQ a j:=by unfold swp;rw[YA _ _ _ _ (by simpa using hk),YA _ _ _ _ hi]
theorem CT{x:Nd}:x∈a↔∃i,i<a.length∧dQ a i=x:=by
 rw[akk];constructor
 ·rintro⟨i,h⟩;have hi:=(IS.1 h).1;rw[Ks hi]at h;exact⟨i,hi,by simpa using h⟩
 ·rintro⟨i,hi,h⟩;exact⟨i,by rw[Ks hi,h]⟩
theorem Ev{k:Nat}(hi:i<a.length)(hk:k<a.length)(x:Nd):x∈swp a i k↔x∈a:=by
 rw[CT,CT];constructor
 ·rintro⟨j,hj,h⟩;rw[nY _ _ _ _ hi hk]at h;split at h
  ·exact⟨i,hi,h⟩
  ·split at h
   ·exact⟨k,hk,h⟩
   ·exact⟨j,by simpa using hj,h⟩
 ·rintro⟨j,hj,h⟩;by_cases e1:j=i
  ·subst e1;refine⟨k,by simpa using hk,?_⟩;rw[nY _ _ _ _ hi hk,BK rfl,h]
  ·by_cases e2:j=k
   ·subst e2;refine⟨i,by simpa using hi,?_⟩;rw[nY _ _ _ _ hi hk];split
    ·rename_i e;exact absurd e.symm e1
    ·rw[BK rfl,h]
   ·exact⟨j,by simpa using hj,by rw[nY _ _ _ _ hi hk,IN e2,IN e1,h]⟩
def Hp(a:List Nd):Prop:=∀j,0<j→j<a.length→wv (dQ a ((j-1)/2)) (dQ a j)
theorem Hp.min(h:Hp a):∀j,j<a.length→wv (dQ a 0) (dQ a j):=by
 intro j;induction j using Nat.strongRecOn with
 |ind j ih=>
  intro hj;by_cases h0:j=0
  ·subst h0;exact CS _
  ·exact wx (ih ((j-1)/2) (by omega) (by omega)) (h j (by omega) hj)
def UpI(a:List Nd)(i:Nat):Prop:=(∀j,0<j→j<a.length→j≠i→wv (dQ a ((j-1)/2)) (dQ a j))∧∀c,0<c→c<a.length→(c-1)/2=i→0<i→wv (dQ a ((i-1)/2)) (dQ a c)
theorem UpI.done(h:UpI a i)(hi:i<a.length)(hs:i=0∨Eu (dQ a i) (dQ a ((i-1)/2))=false):Hp a:=by
 intro j h0 hj;by_cases e:j=i
 ·subst e;rcases hs with hs|hs
  ·omega
  ·exact hs
 ·exact h.1 j h0 hj e
theorem UpI.step(h:UpI a i)(h0:0<i)(hi:i<a.length)(hb:Eu (dQ a i) (dQ a ((i-1)/2))=true):UpI (swp a i ((i-1)/2)) ((i-1)/2):=by
 have hp:(i-1)/2<a.length:=by omega
 have hpi:(i-1)/2<i:=by omega
 obtain⟨p,Hi⟩:∃p,p=(i-1)/2:=⟨_,rfl⟩;rw[←Hi]at hp hpi hb⊢;have hle:=yt hb;refine⟨fun j j0 hj cY=>?_,fun c c0 hc hcp HL=>?_⟩
 ·rw[jH]at hj;rw[nY _ _ _ _ hi hp,nY _ _ _ _ hi hp,IN cY];by_cases e1:j=i
  ·subst e1;rw[←Hi,BK rfl,BK rfl];exact hle
  ·rw[IN e1];by_cases e2:(j-1)/2=p
   ·rw[BK e2];have:=h.1 j j0 hj e1;rw[e2]at this;exact wx hle this
   ·rw[IN e2];by_cases e3:(j-1)/2=i
    ·rw[BK e3];have:=h.2 j j0 hj e3 h0;rw[←Hi]at this;exact this
    ·rw[IN e3];exact h.1 j j0 hj e1
 ·rw[jH]at hc;have hpp:(p-1)/2≠p∧(p-1)/2≠i:=by omega
  rw[nY _ _ _ _ hi hp,nY _ _ _ _ hi hp,IN hpp.1,IN hpp.2];have h1:=h.1 p HL hp (by omega);by_cases e1:c=p
  ·omega
  ·rw[IN e1];by_cases e2:c=i
   ·rw[BK e2];exact h1
   ·rw[IN e2];have:=h.1 c c0 hc e2;rw[hcp]at this;exact wx h1 this
theorem UpI.start(h:Hp a)(x:Nd):UpI (a++[x]) a.length:=by
 have hat:∀j,j<a.length→dQ (a++[x]) j=dQ a j:=fun j hj=>by simp[dQ,List.getD,akC hj]
 refine⟨fun j j0 hj cY=>?_,fun c c0 hc hcp h0=>?_⟩
 ·have:j<a.length:=by simp at hj;omega
  rw[hat _ (by omega),hat _ this];exact h j j0 this
 ·simp at hc;omega
def DnI(a:List Nd)(i:Nat):Prop:=(∀j,0<j→j<a.length→(j-1)/2≠i→wv (dQ a ((j-1)/2)) (dQ a j))∧∀c,0<c→c<a.length→(c-1)/2=i→0<i→wv (dQ a ((i-1)/2)) (dQ a c)
theorem DnI.done(h:DnI a i)(hs:∀c,0<c→c<a.length→(c-1)/2=i→wv (dQ a i) (dQ a c)):Hp a:=by
 intro j h0 hj;by_cases e:(j-1)/2=i
 ·rw[e];exact hs j h0 hj e
 ·exact h.1 j h0 hj e
theorem DnI.step{k:Nat}(h:DnI a i)(hk:k<a.length)(ZP:k=2*i+1∨k=2*i+2)(T6:∀c,0<c→c<a.length→(c-1)/2=i→wv (dQ a k) (dQ a c))(hb:Eu (dQ a k) (dQ a i)=true):DnI (swp a i k) k:=by
 have hi:i<a.length:=by omega
 have hle:=yt hb;have hpk:(k-1)/2=i:=by omega
 refine⟨fun j j0 hj cY=>?_,fun c c0 hc hcp hk0=>?_⟩
 ·rw[jH]at hj;rw[nY _ _ _ _ hi hk,nY _ _ _ _ hi hk,IN cY];by_cases e1:j=k
  ·subst e1;rw[hpk,BK rfl,BK rfl];exact hle
  ·rw[IN e1];by_cases e2:(j-1)/2=i
   ·rw[BK e2,IN (by omega)];exact T6 j j0 hj e2
   ·rw[IN e2];by_cases e3:j=i
    ·rw[BK e3];have:=h.2 k (by omega) hk hpk (by omega);rw[e3];exact this
    ·rw[IN e3];exact h.1 j j0 hj e2
 ·rw[jH]at hc;rw[nY _ _ _ _ hi hk,nY _ _ _ _ hi hk,hpk,IN (by omega),BK rfl,IN (by omega),IN (by omega)];have:=h.1 c c0 hc (by omega);rw[hcp]at this;exact this
theorem DnI.start(h:Hp a)(cY:0<a.length):DnI ((swp a 0 (a.length-1)).take (a.length-1)) 0:=by
 have hl:((swp a 0 (a.length-1)).take (a.length-1)).length=a.length-1:=by simp
 have hat:∀j,0<j→j<a.length-1→dQ ((swp a 0 (a.length-1)).take (a.length-1)) j=dQ a j:=fun j j0 hj=>by
  have:dQ ((swp a 0 (a.length-1)).take (a.length-1)) j=dQ (swp a 0 (a.length-1)) j:=by simp[dQ,List.getD,akf hj]
  rw[this,nY _ _ _ _ (by omega) (by omega),IN (by omega),IN (by omega)]
 refine⟨fun j j0 hj cY=>?_,fun c _ _ _ h0=>by omega⟩;rw[hl]at hj;rw[hat j j0 hj,hat _ (by omega) (by omega)];exact h j j0 (by omega)
theorem Tv(cY:0<a.length)(y:Nd):(y∈(swp a 0 (a.length-1)).take (a.length-1)→y∈a)∧(y∈a→y=dQ a 0∨y∈(swp a 0 (a.length-1)).take (a.length-1)):=by
 refine⟨fun h=>(Ev cY (by omega) y).1 (akN h),fun h=>?_⟩;have h:=(Ev (i:=0) (k:=a.length-1) cY (by omega) y).2 h;rw[CT]at h;obtain⟨j,hj,e⟩:=h;rw[jH]at hj;by_cases hl:j=a.length-1
 ·left;rw[nY _ _ _ _ cY (by omega),BK hl]at e;exact e.symm
 ·right;rw[akk];refine⟨j,?_⟩;rw[akf (by omega),Ks (by simpa using hj),e]
theorem Vh{S R A:Type}{body:S→(S→Option R)→Option R}(st:A→S)(I:A→Prop)(m:A→Nat)(fin:A→Option R→Prop)(h:∀a,I a→∀rec,(∃a',I a'∧m a'<m a∧body (st a) rec=rec (st a'))∨(∃r,fin a r∧body (st a) rec=r)):∀N a,I a→m a<N→∃a' r,I a'∧fin a' r∧cR body N (st a)=r:=by
 intro N;induction N with
 |zero=>intro a _ h;omega
 |succ N ih=>
  intro a hI hm;simp only[cR];rcases h a hI (cR body N)with⟨a',h1,h2,h3⟩|⟨r,h1,h2⟩
  ·obtain⟨a2,r,i1,i2,i3⟩:=ih a' h1 (by omega);exact⟨a2,r,i1,i2,by rw[h3];exact i3⟩
  ·exact⟨a,r,hI,h1,h2⟩
def up:Nat→List Nd→Nat→List Nd
 |0,a,_=>a
 |f+1,a,i=>if 0<i∧Eu (dQ a i) (dQ a ((i-1)/2))=true then up f (swp a i ((i-1)/2)) ((i-1)/2)else a
def push(a:List Nd)(x:Nd):List Nd:=up (a.length+1) (a++[x]) a.length
def IQ(a:List Nd)(i:Nat):Nat:=if 2*i+1+1<a.length∧Eu (dQ a (2*i+1+1)) (dQ a (2*i+1))=true then 2*i+1+1 else 2*i+1
def down:Nat→List Nd→Nat→List Nd
 |0,a,_=>a
 |f+1,a,i=>if a.length≤2*i+1 then a else if Eu (dQ a (IQ a i)) (dQ a i)=true then down f (swp a i (IQ a i)) (IQ a i)else a
def Rb(a:List Nd):List Nd:=(swp a 0 (a.length-1)).take (a.length-1)
def rest(a:List Nd):List Nd:=down (a.length+1) (Rb a) 0
theorem abC:∀(f:Nat){a:List Nd}{i:Nat},i<f→i<a.length→UpI a i→Hp (up f a i)∧(up f a i).length=a.length∧∀x,x∈up f a i↔x∈a
 |0,_,_,h,_,_=>by omega
 |f+1,a,i,hf,hi,h=>by
  unfold up;split
  ·rename_i hc;have hp:(i-1)/2<a.length:=by omega
   obtain⟨h1,h2,h3⟩:=abC f (a:=swp a i ((i-1)/2)) (i:=(i-1)/2) (by omega) (by rw[jH];exact hp) (h.step hc.1 hi hc.2);exact⟨h1,by rw[h2,jH],fun x=>by rw[h3,Ev hi hp]⟩
  ·rename_i hc;refine⟨h.done hi ?_,rfl,fun x=>Iff.rfl⟩;by_cases h0:i=0
   ·exact .inl h0
   ·right;cases hb:Eu (dQ a i) (dQ a ((i-1)/2))with
    |false=>rfl
    |true=>exact absurd ⟨by omega,hb⟩ hc
variable{a:List Nd}
theorem aaN(h:Hp a)(x:Nd):Hp (push a x)∧(push a x).length=a.length+1∧∀y,y∈push a x↔y∈a∨y=x:=by obtain⟨h1,h2,h3⟩:=abC (a.length+1) (a:=a++[x]) (i:=a.length) (by omega) (by simp) (UpI.start h x);exact⟨h1,by unfold push;rw[h2];simp,fun y=>by unfold push;rw[h3];simp⟩
theorem YB{i:Nat}(h:¬a.length≤2*i+1):IQ a i<a.length∧(IQ a i=2*i+1∨IQ a i=2*i+2)∧∀c,0<c→c<a.length→(c-1)/2=i→wv (dQ a (IQ a i)) (dQ a c):=by
 unfold IQ;split
 ·rename_i hc;refine⟨by omega,.inr rfl,fun c c0 hl hp=>?_⟩;have:c=2*i+1∨c=2*i+1+1:=by omega
  rcases this with rfl|rfl
  ·exact yt hc.2
  ·exact CS _
 ·rename_i hc;refine⟨by omega,.inl rfl,fun c c0 hl hp=>?_⟩;have:c=2*i+1∨c=2*i+1+1:=by omega
  rcases this with rfl|rfl
  ·exact CS _
  ·unfold wv;cases hb:Eu (dQ a (2*i+1+1)) (dQ a (2*i+1))with
   |false=>rfl
   |true=>exact absurd ⟨hl,hb⟩ hc
theorem Tw:∀(f:Nat){a:List Nd}{i:Nat},a.length≤f+i→DnI a i→Hp (down f a i)∧(down f a i).length=a.length∧∀x,x∈down f a i↔x∈a
 |0,a,i,hf,h=>⟨h.done fun c c0 hc hp=>by omega,rfl,fun x=>Iff.rfl⟩
 |f+1,a,i,hf,h=>by
  unfold down;split
  ·exact⟨h.done fun c c0 hc hp=>by omega,rfl,fun x=>Iff.rfl⟩
  ·rename_i hl;obtain⟨k1,k2,k3⟩:=YB hl;split
   ·rename_i hb;obtain⟨h1,h2,h3⟩:=Tw f (a:=swp a i (IQ a i)) (i:=IQ a i) (by rw[jH];omega) (h.step k1 k2 k3 hb);exact⟨h1,by rw[h2,jH],fun x=>by rw[h3,Ev (by omega) k1]⟩
   ·rename_i hb;refine⟨h.done fun c c0 hc hp=>wx ?_ (k3 c c0 hc hp),rfl,fun x=>Iff.rfl⟩;unfold wv;exact akQ _▸hb
theorem Kt(h:Hp a)(cY:0<a.length):Hp (rest a)∧(rest a).length=a.length-1∧(∀y∈rest a,y∈a)∧(∀y∈a,y=dQ a 0∨y∈rest a)∧∀y∈a,(dQ a 0).len≤y.len:=by
 have hl:(Rb a).length=a.length-1:=by simp[Rb]
 obtain⟨h1,h2,h3⟩:=Tw (a.length+1) (a:=Rb a) (i:=0) (by rw[hl];omega) (DnI.start h cY);refine⟨h1,by unfold rest;rw[h2,hl],fun y hy=>?_,fun y hy=>?_,fun y hy=>?_⟩
 ·exact(Tv cY y).1 ((h3 y).1 hy)
 ·rcases(Tv cY y).2 hy with h|h
  ·exact .inl h
  ·exact .inr ((h3 y).2 h)
 ·obtain⟨j,hj,rfl⟩:=CT.1 hy;exact Yz (h.min j hj)
structure Ed where
 f:Nat
 t:Nat
 c:Nat
 deriving DecidableEq,Inhabited
def ew(E:List Ed)(i j c:Nat):Prop:=(⟨i,j,c⟩:Ed)∈E
abbrev Lab:=Option (Nat×Nat)
abbrev oZ:=Nat→Lab
def yu(o:oZ)(v:Nat)(l:Lab):oZ:=fun u=>if u=v then l else o u
def wF(E:List Ed)(o:oZ):Nat:=E.countP fun y=>(o y.f).isNone
def Hr(n:Nat)(o:oZ):Nat:=(List.range n).countP fun v=>(o v).isSome
def Ku(E:List Ed)(s v L:Nat):Prop:=(v=s∧L=0)∨lI (ew E) s v L
structure DI(E:List Ed)(n s B:Nat)(o:oZ)(pu:Nat)(H:List Nd):Prop where
 hp:Hp H
 node:∀x∈H,x.n<n
 real:∀x∈H,Ku E s x.n x.len
 mL:∀v L e,v<n→o v=some (L,e)→Ku E s v L∧∀L',Ku E s v L'→L≤L'
 front:∀u L e v c,u<n→o u=some (L,e)→(⟨u,v,c⟩:Ed)∈E→o v=none→∃x∈H,x.n=v∧x.len≤L+c
 src:o s=none→∃x∈H,x.n=s∧x.len=0
 YC:∀x∈H,x.len≤B*Hr n o∧x.e≤Hr n o
 acK:∀v L e,v<n→o v=some (L,e)→L≤B*n∧e≤n
 XZ:pu+wF E o≤1+E.length
 acL:H.length≤pu
theorem Tx(n:Nat)(o:oZ):Hr n o≤n:=by unfold Hr;have:=aly (p:=fun v=>(o v).isSome) (l:=List.range n);simpa using this
theorem DQ{A:Type}[DecidableEq A]{p q:A→Bool}{v:A}:∀{l:List A},l.Nodup→v∈l→(∀u,u≠v→p u=q u)→p v=false→q v=true→l.countP q=l.countP p+1
 |a::l,hn,hv,hpq,h0,h1=>by
  rw[alz]at hn;rw[akq,akq];by_cases e:a=v
  ·subst e;have:l.countP q=l.countP p:=by apply List.countP_congr;intro u hu;rw[hpq u fun e=>by subst e;exact hn.1 hu]
   rw[this,h0,h1];simp
  ·have T3:v∈l:=by rcases ah4.1 hv with h|h;exact absurd h.symm e;exact h
   rw[DQ hn.2 T3 hpq h0 h1,hpq a e];omega
variable{o:oZ}
theorem YD{n:Nat}{v:Nat}{l:Nat×Nat}(hv:v<n)(h:o v=none):Hr n (yu o v (some l))=Hr n o+1:=DQ (p:=fun v=>(o v).isSome) (q:=fun u=>(yu o v (some l) u).isSome) (v:=v) List.nodup_range (ala.2 hv) (fun u hu=>by simp[yu,hu]) (by simp[h]) (by simp[yu])
theorem DI.least{E:List Ed}{n s B:Nat}{pu:Nat}{H:List Nd}(h:DI E n s B o pu H)(hE:∀y∈E,y.f<n∧y.t<n){v L:Nat}(hv:o v=none)(hw:Ku E s v L):∃x∈H,x.len≤L:=by
 cases hs:o s with
 |none=>obtain⟨x,h1,_,h2⟩:=h.src hs;exact⟨x,h1,by omega⟩
 |some l=>
  obtain⟨Ls,es⟩:=l;rcases hw with⟨rfl,_⟩|hw
  ·rw[hs]at hv;cases hv
  have key:∀{v L:Nat},lI (ew E) s v L→o v=none→∃x∈H,x.len≤L:=by
   intro v L hw;induction hw with
   | @GO j c hc=>intro hv;have oq:s<n:=(hE _ hc).1;obtain⟨x,h1,_,h2⟩:=h.front s Ls es j c oq hs hc hv;have:=(h.mL s Ls es oq hs).2 0 (.inl ⟨rfl,rfl⟩);exact⟨x,h1,by omega⟩
   | @snoc m j A c hA hc ih=>
    intro hv;cases hm:o m with
    |none=>obtain⟨x,h1,h2⟩:=ih hm;exact⟨x,h1,by omega⟩
    |some l=>obtain⟨Lm,em⟩:=l;have oq:m<n:=(hE _ hc).1;obtain⟨x,h1,_,h2⟩:=h.front m Lm em j c oq hm hc hv;have:=(h.mL m Lm em oq hm).2 A (.inr hA);exact⟨x,h1,by omega⟩
  exact key hw hv
theorem DI.skip{E:List Ed}{n s B:Nat}{pu:Nat}{H:List Nd}(h:DI E n s B o pu H)(cY:0<H.length)(tb:(o (dQ H 0).n).isSome=true):DI E n s B o pu (rest H):=by
 obtain⟨r1,r2,r3,r4,r5⟩:=Kt h.hp cY;have other:∀x∈H,o x.n=none→x∈rest H:=fun x hx hn=>by
  rcases r4 x hx with e|e
  ·rw[e]at hn;rw[hn]at tb;cases tb
  ·exact e
 refine⟨r1,fun x hx=>h.node x (r3 x hx),fun x hx=>h.real x (r3 x hx),h.mL,fun u L e v c hu ho he hv=>?_,fun hs=>?_,fun x hx=>h.YC x (r3 x hx),h.acK,h.XZ,by rw[r2];have:=h.acL;omega⟩
 ·obtain⟨x,x1,x2,x3⟩:=h.front u L e v c hu ho he hv;exact⟨x,other x x1 (by rw[x2];exact hv),x2,x3⟩
 ·obtain⟨x,x1,x2,x3⟩:=h.src hs;exact⟨x,other x x1 (by rw[x2];exact hs),x2,x3⟩
def oC(o:oZ)(x:Nd):List Ed→Nat→List Nd→Nat×List Nd
 |[],pu,H=>(pu,H)
 |z::es,pu,H=>if(o z.t).isNone=true then oC o x es (pu+1) (push H ⟨z.t,x.len+z.c,x.e+1,pu⟩)else oC o x es pu H
theorem GP{o:oZ}{x:Nd}:∀{es:List Ed}{pu:Nat}{H:List Nd},Hp H→∃k,k≤es.length∧(oC o x es pu H).1=pu+k∧(oC o x es pu H).2.length=H.length+k∧Hp (oC o x es pu H).2∧(∀y∈(oC o x es pu H).2,y∈H∨∃z∈es,o z.t=none∧y.n=z.t∧y.len=x.len+z.c∧y.e=x.e+1)∧(∀y∈H,y∈(oC o x es pu H).2)∧∀z∈es,o z.t=none→∃y∈(oC o x es pu H).2,y.n=z.t∧y.len=x.len+z.c
 |[],pu,H,h=>⟨0,ajC _,rfl,rfl,h,fun y hy=>.inl hy,fun y hy=>hy,fun z hz=>by cases hz⟩
 |z::es,pu,H,h=>by
  unfold oC;split
  ·rename_i hz;have hz:o z.t=none:=by simpa using hz
   obtain⟨p1,p2,p3⟩:=aaN h ⟨z.t,x.len+z.c,x.e+1,pu⟩;obtain⟨k,k1,k2,k3,k4,k5,k6,k7⟩:=GP (o:=o) (x:=x) (es:=es) (pu:=pu+1) p1;refine⟨k+1,by simp;omega,by rw[k2];omega,by rw[k3,p2];omega,k4,fun y hy=>?_,fun y hy=>k6 y ((p3 y).2 (.inl hy)),fun z' Wh hn=>?_⟩
   ·rcases k5 y hy with h1|⟨z',h1,h2⟩
    ·rcases(p3 y).1 h1 with h1|rfl
     ·exact .inl h1
     ·exact .inr ⟨z,by simp,hz,rfl,rfl,rfl⟩
    ·exact .inr ⟨z',by simp[h1],h2⟩
   ·rcases ah4.1 Wh with rfl|Wh
    ·exact⟨_,k6 _ ((p3 _).2 (.inr rfl)),rfl,rfl⟩
    ·exact k7 z' Wh hn
  ·rename_i hz;obtain⟨k,k1,k2,k3,k4,k5,k6,k7⟩:=GP (o:=o) (x:=x) (es:=es) (pu:=pu) h;refine⟨k,by simp;omega,k2,k3,k4,fun y hy=>?_,k6,fun z' Wh hn=>?_⟩
   ·rcases k5 y hy with h1|⟨z',h1,h2⟩
    ·exact .inl h1
    ·exact .inr ⟨z',by simp[h1],h2⟩
   ·rcases ah4.1 Wh with rfl|Wh
    ·rw[hn]at hz;exact absurd rfl hz
    ·exact k7 z' Wh hn
theorem YE(E:List Ed)(o:oZ)(v:Nat)(l:Nat×Nat)(h:o v=none):wF E o=wF E (yu o v (some l))+(E.filter fun y=>y.f==v).length:=by
 unfold wF;induction E with
 |nil=>rfl
 |cons y E ih=>
  rw[akq,akq,akc,ih];by_cases e:y.f=v
  ·subst e;simp[yu,h];omega
  ·simp[yu,e];omega
variable{E:List Ed}
theorem DI.settle{n s B:Nat}{o:oZ}{pu:Nat}{H:List Nd}(h:DI E n s B o pu H)(hE:∀y∈E,y.f<n∧y.t<n∧y.c≤B)(cY:0<H.length)(Dt:o (dQ H 0).n=none):DI E n s B (yu o (dQ H 0).n (some ((dQ H 0).len,(dQ H 0).e))) (oC (yu o (dQ H 0).n (some ((dQ H 0).len,(dQ H 0).e))) (dQ H 0) (E.filter fun y=>y.f==(dQ H 0).n) pu (rest H)).1 (oC (yu o (dQ H 0).n (some ((dQ H 0).len,(dQ H 0).e))) (dQ H 0) (E.filter fun y=>y.f==(dQ H 0).n) pu (rest H)).2∧(oC (yu o (dQ H 0).n (some ((dQ H 0).len,(dQ H 0).e))) (dQ H 0) (E.filter fun y=>y.f==(dQ H 0).n) pu (rest H)).2.length+wF E (yu o (dQ H 0).n (some ((dQ H 0).len,(dQ H 0).e)))<H.length+wF E o:=by
 obtain⟨r1,r2,r3,r4,r5⟩:=Kt h.hp cY;obtain⟨x,hx⟩:∃x,x=dQ H 0:=⟨_,rfl⟩;rw[←hx]at Dt r4 r5⊢;have hxm:x∈H:=CT.2 ⟨0,cY,hx.symm⟩;have hxn:=h.node x hxm;obtain⟨o1,ho1⟩:∃o1,o1=yu o x.n (some (x.len,x.e)):=⟨_,rfl⟩;rw[←ho1];have oo:∀v,o1 v=if v=x.n then some (x.len,x.e)else o v:=fun v=>by rw[ho1];rfl
 have on:∀v,o1 v=none→v≠x.n∧o v=none:=fun v hv=>by
  rw[oo]at hv;split at hv
  ·cases hv
  ·exact⟨‹_›,hv⟩
 obtain⟨k,k1,k2,k3,k4,k5,k6,k7⟩:=GP (o:=o1) (x:=x) (es:=E.filter fun y=>y.f==x.n) (pu:=pu) r1;have hs:Hr n o1=Hr n o+1:=by rw[ho1];exact YD hxn Dt
 have Dv:wF E o=wF E o1+(E.filter fun y=>y.f==x.n).length:=by rw[ho1];exact YE E o x.n _ Dt
 have mem:∀z,z∈(E.filter fun y=>y.f==x.n)↔z∈E∧z.f=x.n:=fun z=>by simp[aka]
 have go:∀z,z∈E→z.f=x.n→lI (ew E) s z.t (x.len+z.c):=fun z hz hf=>by
  have he:ew E x.n z.t z.c:=by
   unfold ew;have:(⟨x.n,z.t,z.c⟩:Ed)=z:=by rw[←hf]
   rw[this];exact hz
  rcases h.real x hxm with⟨e1,e2⟩|hw
  ·rw[e2,ako];rw[e1]at he;exact .GO he
  ·exact .snoc hw he
 have other:∀y∈H,y.n≠x.n→y∈(oC o1 x (E.filter fun y=>y.f==x.n) pu (rest H)).2:=fun y hy hn=>by
  rcases r4 y hy with e|e
  ·exact absurd (by rw[e]) hn
  ·exact k6 y e
 refine⟨⟨k4,fun y hy=>?_,fun y hy=>?_,fun v L e hv ho=>?_,fun u L e v c hu ho he hv=>?_,fun hs'=>?_,fun y hy=>?_,fun v L e hv ho=>?_,?_,?_⟩,?_⟩
 ·rcases k5 y hy with h1|⟨z,z1,z2,z3,_⟩
  ·exact h.node y (r3 y h1)
  ·rw[z3];exact(hE z ((mem z).1 z1).1).2.1
 ·rcases k5 y hy with h1|⟨z,z1,z2,z3,z4,_⟩
  ·exact h.real y (r3 y h1)
  ·rw[z3,z4];exact .inr (go z ((mem z).1 z1).1 ((mem z).1 z1).2)
 ·rw[oo]at ho;split at ho
  ·rename_i e';simp only[AT,ado]at ho;obtain⟨rfl,rfl⟩:=ho;subst e';refine⟨h.real x hxm,fun L' hL=>?_⟩;obtain⟨y,y1,y2⟩:=h.least (fun y hy=>⟨(hE y hy).1,(hE y hy).2.1⟩) Dt hL;exact ajP (r5 y y1) y2
  ·exact h.mL v L e hv ho
 ·obtain⟨v1,v2⟩:=on v hv;rw[oo]at ho;split at ho
  ·rename_i e';simp only[AT,ado]at ho;obtain⟨rfl,rfl⟩:=ho;obtain⟨y,y1,y2,y3⟩:=k7 ⟨u,v,c⟩ ((mem _).2 ⟨he,e'⟩) hv;exact⟨y,y1,y2,by rw[y3];exact ajC _⟩
  ·obtain⟨y,y1,y2,y3⟩:=h.front u L e v c hu ho he v2;exact⟨y,other y y1 (by rw[y2];exact v1),y2,y3⟩
 ·obtain⟨v1,v2⟩:=on s hs';obtain⟨y,y1,y2,y3⟩:=h.src v2;exact⟨y,other y y1 (by rw[y2];exact v1),y2,y3⟩
 ·rw[hs,Nat.mul_succ];rcases k5 y hy with h1|⟨z,z1,z2,z3,z4,z5⟩
  ·have:=h.YC y (r3 y h1);omega
  ·have:=h.YC x hxm;have:=(hE z ((mem z).1 z1).1).2.2;omega
 ·rw[oo]at ho;split at ho
  ·simp only[AT,ado]at ho;obtain⟨rfl,rfl⟩:=ho;have h1:=h.YC x hxm;have h2:=Tx n o;have h3:B*Hr n o≤B*n:=akx _ h2;omega
  ·exact h.acK v L e hv ho
 ·have:=h.XZ;omega
 ·have:=h.acL;omega
 ·rw[k3,r2];omega
theorem DI.start{n s B:Nat}(hs:s<n):DI E n s B (fun _=>none) 1 [⟨s,0,0,0⟩]:=by
 refine⟨fun j j0 hj=>by simp at hj;omega,fun x hx=>?_,fun x hx=>?_,fun v L e _ h=>(by cases h),fun u L e v c _ h=>(by cases h),fun _=>⟨⟨s,0,0,0⟩,by simp,rfl,rfl⟩,fun x hx=>?_,fun v L e _ h=>(by cases h),?_,by simp⟩
 ·simp at hx;subst hx;exact hs
 ·simp at hx;subst hx;exact .inl ⟨rfl,rfl⟩
 ·simp at hx;subst hx;simp
 ·have:wF E (fun _=>none)=E.length:=by simp[wF]
  omega
theorem DI.done{n s B:Nat}{o:oZ}{pu:Nat}(h:DI E n s B o pu [])(hE:∀y∈E,y.f<n∧y.t<n∧y.c≤B){v:Nat}(hv:v<n):match o v with
 |some (L,_)=>L≤B*n∧Ku E s v L∧∀L',Ku E s v L'→L≤L'
 |none=>∀L',¬Ku E s v L':=by
 cases ho:o v with
 |some l=>obtain⟨L,e⟩:=l;exact⟨(h.acK v L e hv ho).1,h.mL v L e hv ho⟩
 |none=>
  intro L' hL
  obtain⟨x,hx,_⟩:=h.least (fun y hy=>⟨(hE y hy).1,(hE y hy).2.1⟩) ho hL
  cases hx
set_option maxRecDepth 100000
set_option linter.unusedVariables false
set_option linter.unusedSimpArgs false
def Nd.pv(x:Nd):PV:=.agg [.int .i64 x.n,.int .i64 x.len,.int .i64 x.e,.int .i64 x.num]
abbrev oi(a:List Nd):List PV:=a.map Nd.pv
theorem nd0(x:Nd):cell x.pv 0=.int .i64 x.n:=rfl
theorem nd1(x:Nd):cell x.pv 1=.int .i64 x.len:=rfl
theorem nd2(x:Nd):cell x.pv 2=.int .i64 x.e:=rfl
theorem nd3(x:Nd):cell x.pv 3=.int .i64 x.num:=rfl
theorem ndE(x:Nd):PV.agg [cell x.pv 0,cell x.pv 1,cell x.pv 2,cell x.pv 3]=x.pv:=rfl
theorem ec{a:List Nd}{i:Nat}(h:i<a.length):(oi a)[i]?=some (dQ a i).pv:=by rw[IT,Ks h];rfl
theorem aeK(a b c:PV):cell (.agg [a,b,c]) 0=a:=rfl
theorem acM(a b c:PV):cell (.agg [a,b,c]) 1=b:=rfl
theorem aeL(a b c:PV):cell (.agg [a,b,c]) 2=c:=rfl
theorem ag3(a b c:PV):asAgg 3 (.agg [a,b,c])=some ():=rfl
theorem aaO(a b:Nd):gN [.agg [cell a.pv 0,cell a.pv 1,cell a.pv 2],.agg [cell b.pv 0,cell b.pv 1,cell b.pv 2]]=some (.bool (decide (a.len<b.len∨(a.len=b.len∧a.e<b.e)))):=by
 simp only[gN,tS,ag3,aeK,acM,aeL,nd0,nd1,nd2,aaV,U,asInt];by_cases h1:a.len<b.len
 ·simp[h1]
 ·by_cases h2:a.len=b.len
  ·simp[h2]
  ·have:((a.len:Int)==(b.len:Int))=false:=by rw[akm];omega
   simp[h1,h2,this]
theorem uZ(a:List Nd)(pu:Nat)(i k:Nat)(hi:i<a.length)(hk:k<a.length):aR [.rp [.fn 156 [],.rs 4 (oi a),.int .i64 pu],.int .i64 i,.int .i64 k]=some (.bool (Eu (dQ a i) (dQ a k))):=by
 have e0:aP 4 (PV.rs 4 (oi a))=some (oi a):=by simp[aP]
 simp only[aR,ey,acM,aeL,e0,U,asInt,aaV,aW,ec hi,ec hk,aaO,asBool,nd3];generalize dQ a i=x;generalize dQ a k=y;unfold Eu;by_cases h1:x.len<y.len∨(x.len=y.len∧x.e<y.e)
 ·have:(x.len<y.len∨(x.len=y.len∧(x.e<y.e∨(x.e=y.e∧x.num<y.num)))):=by omega
  simp[h1,this]
 ·by_cases h2:y.len<x.len∨(y.len=x.len∧y.e<x.e)
  ·have:¬(x.len<y.len∨(x.len=y.len∧(x.e<y.e∨(x.e=y.e∧x.num<y.num)))):=by omega
   simp[h1,h2,this]
  ·have:(x.len<y.len∨(x.len=y.len∧(x.e<y.e∨(x.e=y.e∧x.num<y.num))))↔x.num<y.num:=by omega
   simp[h1,h2,this]
theorem half(i:Nat)(h:0<i)(hi:i<4611686018427387904):IntKind.i64.wrap ((IntKind.i64.wrap ((i:Int)-1)).tdiv 2)=(((i-1)/2:Nat):Int):=by
 have e1:IntKind.i64.wrap ((i:Int)-1)=((i-1:Nat):Int):=by rw[bE (by omega) (by omega)];omega
 have e2:((i-1:Nat):Int).tdiv 2=(((i-1)/2:Nat):Int):=rfl;rw[e1,e2,bE (by omega) (by omega)]
theorem Ew{i:Nat}{es:List PV}(h:i<es.length):ae (i:Int) es.length:=⟨by omega,by omega⟩
theorem Kv(a:List Nd)(i k:Nat):((oi a).set i (dQ a k).pv).set k (dQ a i).pv=oi (swp a i k):=by simp[swp,aml]
theorem Ty(jQ:TY2→Option PV)(t1:PV)(es:List PV)(ln ix:Int)(pu:Nat)(out:List PV)(x0 x1 x2:PV):∀(f N:Nat)(a:List Nd)(i:Nat),i<f→f≤N→i<a.length→a.length<4611686018427387904→cR (mM jQ) N ((i:Int),t1,es,ln,ix,(pu:Int),out,x0,x1,x2,oi a,())=jQ (t1,es,ln,IntKind.i64.wrap (ix+1),out,(pu:Int),x0,x1,x2,oi (up f a i),())
 |0,_,_,_,h,_,_,_=>by omega
 |f+1,0,_,_,_,h,_,_=>by omega
 |f+1,N+1,a,i,hf,hN,hi,ha=>by
  simp only[cR];unfold mM up;by_cases h0:0<i
  ·have hp:(i-1)/2<a.length:=by omega
   have hg:decide ((i:Int)>0)=true:=by simp;omega
   simp only[hg,cond_true,half i h0 (by omega),uZ a pu i ((i-1)/2) hi hp,U,asBool];by_cases hb:Eu (dQ a i) (dQ a ((i-1)/2))=true
   ·have hl1:i<(oi a).length:=by simpa using hi
    have hl2:(i-1)/2<(oi a).length:=by simpa using hp
    have hl3:(i-1)/2<((oi a).set i (dQ a ((i-1)/2)).pv).length:=by simpa using hp
    have IU:((oi a).set i (dQ a ((i-1)/2)).pv)[(i-1)/2]?=some (dQ a ((i-1)/2)).pv:=by rw[aj6];rw[IN (by omega),ec hp]
    simp only[hb,aaV,BK (Ew hl1),BK (Ew hl2),BK (Ew hl3),ajw,ec hi,ec hp,U,ndE,IU,Kv,h0,and_self];exact Ty jQ t1 es ln ix pu out x0 x1 x2 f N (swp a i ((i-1)/2)) ((i-1)/2) (by omega) (by omega) (by rw[jH];exact hp) (by rw[jH];exact ha)
   ·simp only[hb,By,abG,and_false]
  ·have hg:decide ((i:Int)>0)=false:=by simp;omega
   simp only[hg,cond_false,U,By,abG,h0,false_and]
def tv(v:Nat):Lab→PV
 |none=>.agg [.int .i64 v,.int .i64 (-1),.int .i64 (-1)]
 |some (L,e)=>.agg [.int .i64 v,.int .i64 (L:Int),.int .i64 (e:Int)]
def dU(n:Nat)(o:oZ):List PV:=(List.range n).map fun v=>tv v (o v)
def Ed.pv(y:Ed):PV:=.agg [.int .i64 y.f,.int .i64 y.t,.int .i64 y.c]
theorem rA(n:Nat)(o:oZ):(dU n o).length=n:=by simp[dU]
theorem rB{n v:Nat}(o:oZ)(h:v<n):(dU n o)[v]?=some (tv v (o v)):=by simp[dU,h]
theorem Vi{n v:Nat}(o:oZ)(l:Nat×Nat)(h:v<n):(dU n o).set v (tv v (some l))=dU n (yu o v (some l)):=by
 apply ajY;intro i;rw[aj6];by_cases e:v=i
 ·subst e;rw[BK rfl,BK (by rw[rA];exact h),rB _ h];simp[yu]
 ·rw[IN e];by_cases hi:i<n
  ·rw[rB _ hi,rB _ hi];simp[yu,Ne.symm e]
  ·rw[ajr (by rw[rA];omega),ajr (by rw[rA];omega)]
theorem aeM(v:Nat)(l:Lab):∃z:Int,asInt .i64 (cell (tv v l) 2)=some z∧(decide (z<0)=l.isNone)∧decide (z≥0)=l.isSome:=by
 cases l with
 |none=>exact⟨-1,rfl,rfl,rfl⟩
 |some p=>obtain⟨L,e⟩:=p;exact⟨e,rfl,by simp,by simp⟩
theorem ed1(y:Ed):cell y.pv 1=.int .i64 y.t:=rfl
theorem ed2(y:Ed):cell y.pv 2=.int .i64 y.c:=rfl
theorem G3(n:Int):asInt .i64 (.int .i64 n)=some n:=by simp[asInt]
theorem IV(cS:PV×List PV×Int×List PV×Unit→Option PV)(t1:PV)(n:Nat)(o:oZ)(x:Nd)(es:List Ed)(ht:∀z∈es,z.t<n)(hn:n<4294967296)(hx:x.len<4611686018427387904)(hxe:x.e<4611686018427387904)(hc:∀z∈es,z.c<4611686018427387904)(H2:es.length<4611686018427387904):∀(m N k pu:Nat)(H:List Nd),m+k=es.length→m<N→pu+m<4294967296→H.length+m<4294967296→cR (dd bn cS) N (t1,es.map Ed.pv,((es.length:Nat):Int),(k:Int),dU n o,(pu:Int),.int .i64 x.n,.int .i64 x.len,.int .i64 x.e,oi H,())=cS (t1,dU n o,((oC o x (es.drop k) pu H).1:Int),oi (oC o x (es.drop k) pu H).2,())
 |_,0,_,_,_,_,h,_,_=>by omega
 |0,N+1,k,pu,H,hk,hN,hpu,hH=>by
  simp only[cR];unfold dd;dsimp only;have hg:decide ((k:Int)<((es.length:Nat):Int))=false:=by simp;omega
  rw[hg,ald (by omega)];rfl
 |m+1,N+1,k,pu,H,hk,hN,hpu,hH=>by
  have ih:=IV cS t1 n o x es ht hn hx hxe hc H2 m N (k+1);simp only[cR];generalize cR (dd bn cS) N=rec at ih⊢;unfold dd;dsimp only;have hkl:k<es.length:=by omega
  have hg:decide ((k:Int)<((es.length:Nat):Int))=true:=by simp;omega
  obtain⟨z,hz⟩:∃z,es[k]?=some z:=⟨_,AI hkl⟩;have hzm:z∈es:=ah3 hz;have hzt:=ht z hzm;have Hf:(es.map Ed.pv)[k]?=some z.pv:=by rw[IT,hz];rfl
  have aeN:es.drop k=z::es.drop (k+1):=by rw[alg hkl];have:=AI hkl;rw[hz]at this;rw[al8 this]
  obtain⟨w,w1,w2,w3⟩:=aeM z.t (o z.t);have oq:ae (z.t:Int) (dU n o).length:=Ew (by rw[rA];exact hzt);rw[aeN,oC];simp only[hg,aaV,aW,Hf,U,ed1,ed2,G3,BK oq,ajw,rB o hzt,w1,w2];by_cases Dt:(o z.t).isNone=true
  ·have e1:IntKind.i64.wrap ((x.len:Int)+(z.c:Int))=((x.len+z.c:Nat):Int):=by have:=hc z hzm;rw[bE (by omega) (by omega)];omega
   have e2:oi H++[PV.agg [.int .i64 z.t,.int .i64 ((x.len+z.c:Nat):Int),.int .i64 ((x.e+1:Nat):Int),.int .i64 pu]]=oi (H++[⟨z.t,x.len+z.c,x.e+1,pu⟩]):=by simp[oi,Nd.pv]
   have e3:(oi (H++[⟨z.t,x.len+z.c,x.e+1,pu⟩])).length=H.length+1:=by simp
   have e4:IntKind.i64.wrap (((H.length+1:Nat):Int)-1)=(H.length:Int):=by rw[bE (by omega) (by omega)];omega
   have e9:(H.length+1)*32≤af∧0<32:=by unfold af;omega
   simp only[Dt,aaV,e1,ag (show x.e<9223372036854775807 by omega),e2,e3,e4,BK e9,ag (show pu<9223372036854775807 by omega),mi];refine(Ty rec t1 (es.map Ed.pv) ((es.length:Nat):Int) (k:Int) (pu+1) (dU n o) _ _ _ (H.length+1) rounds (H++[⟨z.t,x.len+z.c,x.e+1,pu⟩]) H.length (by omega) (by unfold rounds;omega) (by simp) (by simp;omega)).trans ?_;rw[ag (by omega)];rw[show up (H.length+1) (H++[⟨z.t,x.len+z.c,x.e+1,pu⟩]) H.length=push H ⟨z.t,x.len+z.c,x.e+1,pu⟩from rfl];refine ih (pu+1) _ (by omega) (by omega) (by omega) ?_;have:(push H ⟨z.t,x.len+z.c,x.e+1,pu⟩).length=H.length+1:=by
    unfold push;have key:∀(f:Nat)(a:List Nd)(i:Nat),(up f a i).length=a.length:=by
     intro f;induction f with
     |zero=>intro a i;rfl
     |succ f ih=>
      intro a i;unfold up;split
      ·rw[ih,jH]
      ·rfl
    rw[key];simp
   omega
  ·simp only[Dt,By,abG,ag (show k<9223372036854775807 by omega)];exact ih pu H (by omega) (by omega) (by omega) (by omega)
structure Gr(E:List Ed)(n:Nat)(ks vs:List PV):Prop where
 small:n<4294967296
 len:E.length<1073741824
 node:∀y∈E,y.f<n∧y.t<n∧y.c≤1073741824
 look:∀v:Nat,v<n→aP 3 (dS (.int .i64 v) (.rs 0 []) (ks.zip vs))=some ((E.filter fun y=>y.f==v).map Ed.pv)
section
variable {E:List Ed} {n:Nat} {ks vs:List PV}
def labelled(o:oZ)(x:Nd):oZ:=yu o x.n (some (x.len,x.e))
def KR(cS:PV×List PV×Int×List PV×Unit→Option PV)(E:List Ed)(n:Nat)(ks vs:List PV)(o:oZ)(x:Nd)(pu:Nat)(H:List Nd):Option PV:=
 if(o x.n).isSome=true then cS (.rm 3 ks vs,dU n o,(pu:Int),oi H,())
 else cS (.rm 3 ks vs,dU n (labelled o x),((oC (labelled o x) x (E.filter fun y=>y.f==x.n) pu H).1:Int),oi (oC (labelled o x) x (E.filter fun y=>y.f==x.n) pu H).2,())
structure Sm(n:Nat)(E:List Ed)(x:Nd)(pu:Nat)(H:List Nd):Prop where
 node:x.n<n
 len:x.len<4611686018427387904
 e:x.e<4611686018427387904
 pu:pu≤1073741824
 H:H.length≤1073741824
theorem yY(hG:Gr E n ks vs)(cS:PV×List PV×Int×List PV×Unit→Option PV)(o:oZ)(x:Nd)(pu:Nat)(H:List Nd)(hS:Sm n E x pu H)(A:Int→PV→Int→Option PV):((asInt .i64 (.int .i64 x.n)).bind fun n23=>if ae n23 (dU n o).length then(dU n o)[n23.toNat]?.bind fun e24=>(asInt .i64 (cell e24 2)).bind fun n25=>if decide (n25≥0)=true then cS (.rm 3 ks vs,dU n o,(pu:Int),oi H,())else(asInt .i64 (.int .i64 x.n)).bind fun n26=>if ae n26 (dU n o).length then(dU n o)[n26.toNat]?.bind fun e27=>(asInt .i64 (.int .i64 x.n)).bind fun n28=>dZ 3 (.rm 3 ks vs) (A n26 e27 n28) fun acN Vj=>(aP 3 (dS (.int .i64 n28) (.rs 0 []) (acN.zip Vj))).bind fun Kw=>bn.run (dd bn cS) (.rm 3 ks vs,Kw,(Kw.length:Int),0,(dU n o).set n26.toNat (.agg [.int .i64 x.n,.int .i64 x.len,.int .i64 x.e]),(pu:Int),.int .i64 x.n,.int .i64 x.len,.int .i64 x.e,oi H,())else none else none)=KR cS E n ks vs o x pu H:=by
 have oq:ae (x.n:Int) (dU n o).length:=Ew (by rw[rA];exact hS.node)
 obtain⟨w,w1,w2,w3⟩:=aeM x.n (o x.n)
 simp only[G3,U,BK oq,ajw,rB o hS.node,w1,w3,dZ,aaV,hG.look x.n hS.node,mi]
 unfold KR
 by_cases hs:(o x.n).isSome=true
 ·simp only[hs,aaV]
 ·simp only[hs,By,abG];have e1:(dU n o).set x.n (.agg [.int .i64 x.n,.int .i64 x.len,.int .i64 x.e])=dU n (labelled o x):=Vi o (x.len,x.e) hS.node;rw[e1];have hl:(E.filter fun y=>y.f==x.n).length≤E.length:=ak1 ..;have cg:∀z∈E.filter (fun y=>y.f==x.n),z∈E:=fun z hz=>(aka.1 hz).1;have h1:=hG.len;have h2:=hS.pu;have h3:=hS.H;have:=IV cS (.rm 3 ks vs) n (labelled o x) x (E.filter fun y=>y.f==x.n) (fun z hz=>(hG.node z (cg z hz)).2.1) hG.small hS.len hS.e (fun z hz=>by have:=(hG.node z (cg z hz)).2.2;omega) (by omega) (E.filter fun y=>y.f==x.n).length rounds 0 pu H (by omega) (by unfold rounds;omega) (by omega) (by omega);rw[amX]at this;simpa using this
theorem YF{a:List Nd}{i:Nat}(h:2*i+1+1<a.length∧Eu (dQ a (2*i+1+1)) (dQ a (2*i+1))=true):IQ a i=2*i+1+1:=BK h
theorem Vk{a:List Nd}{i:Nat}(h:¬(2*i+1+1<a.length∧Eu (dQ a (2*i+1+1)) (dQ a (2*i+1))=true)):IQ a i=2*i+1:=IN h
theorem IW(hG:Gr E n ks vs)(cS:PV×List PV×Int×List PV×Unit→Option PV)(o:oZ)(x:Nd)(pu:Nat)(z1 z2 z3:Int):∀(f N:Nat)(a:List Nd)(i:Nat),a.length≤f+i→f<N→i<4294967296→Sm n E x pu a→cR (eo bn cS) N ((i:Int),.rm 3 ks vs,(pu:Int),z1,z2,z3,.int .i64 x.n,.int .i64 x.len,.int .i64 x.e,dU n o,oi a,())=KR cS E n ks vs o x pu (down f a i)
 |_,0,_,_,_,h,_,_=>by omega
 |0,N+1,a,i,hf,hN,hi,hS=>by
  simp only[cR];generalize cR (eo bn cS) N=rec;unfold eo down;dsimp only;have e1:IntKind.i64.wrap (IntKind.i64.wrap (2*(i:Int))+1)=((2*i+1:Nat):Int):=by rw[bE (x:=2*(i:Int)) (by omega) (by omega),bE (by omega) (by omega)];omega
  have hg:decide (((2*i+1:Nat):Int)≥((oi a).length:Int))=true:=by simp;omega
  rw[e1,BK hg];exact yY hG cS o x pu a hS _
 |f+1,N+1,a,i,hf,hN,hi,hS=>by
  have ih:=IW hG cS o x pu z1 z2 z3 f N;simp only[cR];generalize cR (eo bn cS) N=rec at ih⊢;have e1:IntKind.i64.wrap (IntKind.i64.wrap (2*(i:Int))+1)=((2*i+1:Nat):Int):=by rw[bE (x:=2*(i:Int)) (by omega) (by omega),bE (by omega) (by omega)];omega
  have e2:IntKind.i64.wrap (((2*i+1:Nat):Int)+1)=((2*i+1+1:Nat):Int):=ag (by omega);unfold eo down;dsimp only;rw[e1,e2];by_cases hl:a.length≤2*i+1
  ·have hg:decide (((2*i+1:Nat):Int)≥((oi a).length:Int))=true:=by simp;omega
   rw[BK hg,BK hl];exact yY hG cS o x pu a hS _
  ·have hg:¬decide (((2*i+1:Nat):Int)≥((oi a).length:Int))=true:=by simp;omega
   rw[IN hg,IN hl];have hlen:=hS.H;have ow:i<a.length:=by omega
   have Z6:i<(oi a).length:=by simpa using ow
   obtain⟨k1,k2,_⟩:=YB hl;have Uh:IQ a i<(oi a).length:=by simpa using k1
   have hk3:IQ a i<((oi a).set i (dQ a (IQ a i)).pv).length:=by simpa using k1
   have IU:((oi a).set i (dQ a (IQ a i)).pv)[IQ a i]?=some (dQ a (IQ a i)).pv:=by rw[aj6,IN (by omega),ec k1]
   have fin:=ih (swp a i (IQ a i)) (IQ a i) (by rw[jH];omega) (by omega) (by omega) ⟨hS.node,hS.len,hS.e,hS.pu,by rw[jH];exact hS.H⟩;by_cases hc:2*i+1+1<a.length∧Eu (dQ a (2*i+1+1)) (dQ a (2*i+1))=true
   ·have hk:=YF hc;have hd:decide (((2*i+1+1:Nat):Int)<((oi a).length:Int))=true:=by simp;omega
    rw[hd];rw[hk]at Uh hk3 IU fin k1⊢;simp only[cond_true,uZ a pu (2*i+1+1) (2*i+1) (by omega) (by omega),hc.2,U,asBool,aaV,uZ a pu (2*i+1+1) i k1 ow];by_cases hb:Eu (dQ a (2*i+1+1)) (dQ a i)=true
    ·rw[BK hb]at*;simp only[hb,ajx,By,abG,BK (Ew Z6),BK (Ew Uh),BK (Ew hk3),ajw,ec ow,ec k1,U,ndE,IU,Kv];exact fin
    ·rw[IN hb];have iv:(!Eu (dQ a (2*i+1+1)) (dQ a i))=true:=by simpa using hb
     rw[BK iv];exact yY hG cS o x pu a hS _
   ·have hk:=Vk hc;have hd:(bif decide (((2*i+1+1:Nat):Int)<((oi a).length:Int))then(aR [.rp [.fn 156 [],.rs 4 (oi a),.int .i64 (pu:Int)],.int .i64 ((2*i+1+1:Nat):Int),.int .i64 ((2*i+1:Nat):Int)]).bind fun r53=>(asBool r53).bind fun b54=>some b54 else some false)=some false:=by
     by_cases h2:2*i+1+1<a.length
     ·have hd:decide (((2*i+1+1:Nat):Int)<((oi a).length:Int))=true:=by simp;omega
      have hb:Eu (dQ a (2*i+1+1)) (dQ a (2*i+1))=false:=by
       cases hb:Eu (dQ a (2*i+1+1)) (dQ a (2*i+1))with
       |false=>rfl
       |true=>exact absurd ⟨h2,hb⟩ hc
      rw[hd,cond_true,uZ a pu (2*i+1+1) (2*i+1) h2 (by omega),U,hb];rfl
     ·have hd:decide (((2*i+1+1:Nat):Int)<((oi a).length:Int))=false:=by simp;omega
      rw[hd];rfl
    rw[hd];rw[hk]at Uh hk3 IU fin k1⊢;simp only[U,asBool,By,abG,uZ a pu (2*i+1) i k1 ow];by_cases hb:Eu (dQ a (2*i+1)) (dQ a i)=true
    ·rw[BK hb]at*;simp only[hb,ajx,By,abG,BK (Ew Z6),BK (Ew Uh),BK (Ew hk3),ajw,ec ow,ec k1,U,ndE,IU,Kv];exact fin
    ·rw[IN hb];have iv:(!Eu (dQ a (2*i+1)) (dQ a i))=true:=by simpa using hb
     rw[BK iv];exact yY hG cS o x pu a hS _
end
section
variable {E:List Ed} {n:Nat} {ks vs:List PV}
theorem Vl(hG:Gr E n ks vs)(cS:PV×List PV×Int×List PV×Unit→Option PV)(o:oZ)(pu:Nat)(H:List Nd)(hS:∀x∈H,Sm n E x pu H):ep bn (.rm 3 ks vs,dU n o,(pu:Int),oi H,()) cS=if H.length=0 then some (.rs 3 (dU n o))else KR cS E n ks vs o (dQ H 0) pu (rest H):=by
 unfold ep;dsimp only;by_cases h0:H.length=0
 ·have hg:(((oi H).length:Int)==0)=true:=by rw[OF,h0];rfl
  rw[BK hg,BK h0]
 ·have hg:¬(((oi H).length:Int)==0)=true:=by simp;intro h;exact h0 (by rw[h];rfl)
  rw[IN hg,IN h0];have hx:dQ H 0∈H:=CT.2 ⟨0,by omega,rfl⟩;have ZZ:=hS _ hx;have hH:=ZZ.H;have hl:((oi H).length:Int)=(H.length:Int):=by simp
  have e1:IntKind.i64.wrap ((H.length:Int)-1)=((H.length-1:Nat):Int):=by rw[bE (by omega) (by omega)];omega
  have i0:ae (0:Int) (oi H).length:=Ew (i:=0) (by simp;omega);have hl1:H.length-1<(oi H).length:=by simp;omega
  have hl3:H.length-1<((oi H).set 0 (dQ H (H.length-1)).pv).length:=by simp;omega
  have g0:(oi H)[0]?=some (dQ H 0).pv:=ec (by omega);have gl:(oi H)[H.length-1]?=some (dQ H (H.length-1)).pv:=ec (by omega);have g3:∃q,((oi H).set 0 (dQ H (H.length-1)).pv)[H.length-1]?=some q:=⟨_,AI hl3⟩;obtain⟨q,g3⟩:=g3;have z0:Int.toNat 0=0:=rfl;have lq:(0:Int)≤0∧0≤((H.length-1:Nat):Int)∧((H.length-1:Nat):Int)≤(((((oi H).set 0 (dQ H (H.length-1)).pv).set (H.length-1) (dQ H 0).pv).length:Nat):Int):=by refine⟨by omega,by omega,?_⟩;simp only[alA,OF];omega
  simp only[hl,e1,BK i0,z0,g0,U,BK (Ew hl1),ajw,gl,ndE,BK (Ew hl3),g3,am7,BK lq,alC];simp only[nd0,nd1,nd2,Kv,←al2,mi];rw[BK (by refine⟨by omega,by omega,?_⟩;simp only[OF,jH];omega)];have:=IW hG cS o (dQ H 0) pu 0 0 0 (H.length+1) rounds (Rb H) 0 (by simp[Rb];omega) (by unfold rounds;omega) (by omega) ⟨ZZ.node,ZZ.len,ZZ.e,ZZ.pu,by simp[Rb];omega⟩;exact this
theorem DI.small{s B:Nat}{o:oZ}{pu:Nat}{H:List Nd}(h:DI E n s B o pu H)(hG:Gr E n ks vs)(hB:B≤1073741824)(hn:n≤64):∀x∈H,Sm n E x pu H:=fun x hx=>by have h1:=h.YC x hx;have h2:=Tx n o;have h3:B*Hr n o≤1073741824*64:=alO hB (by omega);have h4:=h.XZ;have h5:=h.acL;have h6:=hG.len;exact⟨h.node x hx,by omega,by omega,by omega,by omega⟩
theorem Vm(hG:Gr E n ks vs){s B:Nat}(hs:s<n)(hB:B≤1073741824)(hEB:∀y∈E,y.c≤B)(hn:n≤64):∃o pu,DI E n s B o pu []∧bn.run (ep bn) (.rm 3 ks vs,dU n (fun _=>none),1,[PV.agg [.int .i64 s,.int .i64 0,.int .i64 0,.int .i64 0]],())=some (.rs 3 (dU n o)):=by
 have hE:∀y∈E,y.f<n∧y.t<n∧y.c≤B:=fun y hy=>⟨(hG.node y hy).1,(hG.node y hy).2.1,hEB y hy⟩;have hlen:=hG.len;obtain⟨a,r,hI,⟨h0,hr⟩,pZ⟩:=Vh (body:=ep bn) (A:=oZ×Nat×List Nd) (fun a=>(PV.rm 3 ks vs,dU n a.1,(a.2.1:Int),oi a.2.2,())) (fun a=>DI E n s B a.1 a.2.1 a.2.2) (fun a=>a.2.2.length+wF E a.1) (fun a r=>a.2.2=[]∧r=some (.rs 3 (dU n a.1))) (fun a hI cS=>by
  obtain⟨o,pu,H⟩:=a;have hI:DI E n s B o pu H:=hI;dsimp only;rw[Vl hG cS o pu H (hI.small hG hB hn)];by_cases hH:H.length=0
  ·right;rw[BK hH];exact⟨_,⟨ajB hH,rfl⟩,rfl⟩
  ·left;rw[IN hH];have cY:0<H.length:=by omega
   unfold KR;by_cases tb:(o (dQ H 0).n).isSome=true
   ·rw[BK tb];refine⟨(o,pu,rest H),hI.skip cY tb,?_,rfl⟩;have:=(Kt hI.hp cY).2.1;dsimp only;omega
   ·rw[IN tb];have Dt:o (dQ H 0).n=none:=by simpa using tb
    obtain⟨s1,s2⟩:=hI.settle hE cY Dt;exact⟨(_,_,_),s1,s2,rfl⟩) rounds ((fun _=>none),1,[⟨s,0,0,0⟩]) (DI.start hs) (by
  have:wF E (fun _=>none)≤E.length:=aly;simp only[ajv,ajQ];unfold rounds;omega)
 obtain⟨o,pu,H⟩:=a;dsimp only at h0 hr hI;subst h0;refine⟨o,pu,hI,?_⟩;rw[mi,←hr,←pZ];rfl
theorem Vn(hG:Gr E n ks vs){s B:Nat}(hs:s<n)(hB:B≤1073741824)(hEB:∀y∈E,y.c≤B)(hn:n≤64):∃o pu,DI E n s B o pu []∧fl [.int .i64 n,.rm 3 ks vs,.int .i64 s]=some (.rs 3 (dU n o)):=by
 obtain⟨o,pu,hI,h⟩:=Vm hG hs hB hEB hn;refine⟨o,pu,hI,?_⟩;have e9:(0:Int)≤(n:Int)∧(n:Int)≤(n:Int)∧n*24≤af∧0<24∧0<3:=by refine⟨by omega,by omega,?_,by omega,by omega⟩;unfold af;omega
 simp only[fl,qn,G3,U,dZ,aaV,BK e9,ajw,ak2];have fill:∀k,k≤n→((List.range n).map fun v=>if v<k then tv v none else PV.agg [.int .i64 0,.int .i64 0,.int .i64 0]).length=n:=fun k _=>by simp
 refine cj (fun k=>(PV.rm 3 ks vs,(s:Int),(n:Int),(k:Int),(List.range n).map (fun v=>if v<k then tv v none else PV.agg [.int .i64 0,.int .i64 0,.int .i64 0]),())) n (fun k hk rec=>?_) (fun rec=>?_) (by unfold rounds;omega) ?_
 ·unfold iG;dsimp only;have hg:decide ((k:Int)<(n:Int))=true:=by simp;omega
  have oq:ae (k:Int) ((List.range n).map fun v=>if v<k then tv v none else PV.agg [.int .i64 0,.int .i64 0,.int .i64 0]).length:=Ew (by rw[fill k (by omega)];exact hk);have ec:((List.range n).map fun v=>if v<k then tv v none else PV.agg [.int .i64 0,.int .i64 0,.int .i64 0])[k]?=some (PV.agg [.int .i64 0,.int .i64 0,.int .i64 0]):=by simp[hk]
  have tb:((List.range n).map fun v=>if v<k then tv v none else PV.agg [.int .i64 0,.int .i64 0,.int .i64 0]).set k (.agg [.int .i64 k,.int .i64 (-1),.int .i64 (-1)])=(List.range n).map fun v=>if v<k+1 then tv v none else PV.agg [.int .i64 0,.int .i64 0,.int .i64 0]:=by
   apply ajY;intro i;rw[aj6];by_cases e:k=i
   ·subst e;simp[hk,tv]
   ·rw[IN e];by_cases hi:i<n
    ·simp only[IT,akW hi,ah5];by_cases h1:i<k
     ·rw[BK h1,BK (by omega)]
     ·rw[IN h1,IN (by omega)]
    ·rw[ajr (by simp;omega),ajr (by simp;omega)]
  rw[BK hg,BK oq,ajw,ec,U,tb,ag (by omega)]
 ·unfold iG;dsimp only;have hg:¬decide ((n:Int)<(n:Int))=true:=by simp
  have e0:IntKind.i64.wrap ((1:Nat)-1:Int)=0:=by decide
  have e1:IntKind.i64.wrap (0+1)=1:=by decide
  have OZ:((List.range n).map fun v=>if v<n then tv v none else PV.agg [.int .i64 0,.int .i64 0,.int .i64 0])=dU n (fun _=>none):=by unfold dU;apply aj9;intro v hv;rw[BK (ala.1 hv)]
  rw[IN hg,OZ,e1];refine Eq.trans ?_ h;have first:∀N,cR (iH bn) (N+1) (IntKind.i64.wrap (((1:Nat):Int)-1),PV.rm 3 ks vs,1,dU n (fun _=>none),[PV.agg [.int .i64 s,.int .i64 0,.int .i64 0,.int .i64 0]],())=bn.run (ep bn) (.rm 3 ks vs,dU n (fun _=>none),1,[PV.agg [.int .i64 s,.int .i64 0,.int .i64 0,.int .i64 0]],()):=fun N=>by
   simp only[cR];generalize cR (iH bn) N=rec;unfold iH;dsimp only;have hg:decide (IntKind.i64.wrap (((1:Nat):Int)-1)>0)=false:=by decide
   rw[hg,cond_false,U,IN (by simp)]
  exact first 18446744073709551615
 ·congr 1;have:((List.range n).map fun v=>if v<0 then tv v none else PV.agg [.int .i64 0,.int .i64 0,.int .i64 0])=List.replicate n (PV.agg [.int .i64 0,.int .i64 0,.int .i64 0]):=by
   apply ajY;intro i;by_cases hi:i<n
   ·simp[hi,aj5]
   ·rw[ajr (by simp;omega),ajr (by simp;omega)]
  rw[this];rfl
end
theorem aaP{S R:Type}{body:S→(S→Option R)→Option R}{s:S}{r:Option R}(h:∀rec,body s rec=r):bn.run body s=r:=cj (fun _=>s) 0 (fun k hk=>by omega) h (by unfold rounds;omega) rfl
def tw(n k:Nat)(F:Nat→PV)(z:PV):List PV:=(List.range n).map fun v=>if v<k then F v else z
theorem MQ(n k:Nat)(F:Nat→PV)(z:PV):(tw n k F z).length=n:=by simp[tw]
theorem MR{n k:Nat}{F:Nat→PV}{z:PV}(hk:k<n):(tw n k F z)[k]?=some z:=by simp[tw,hk]
theorem MS{n k:Nat}{F:Nat→PV}{z:PV}(hk:k<n):(tw n k F z).set k (F k)=tw n (k+1) F z:=by
 apply ajY;intro i;rw[aj6];by_cases e:k=i
 ·subst e;simp[tw,hk]
 ·rw[IN e];unfold tw;by_cases hi:i<n
  ·simp only[IT,akW hi,ah5];by_cases h1:i<k
   ·rw[BK h1,BK (by omega)]
   ·rw[IN h1,IN (by omega)]
  ·rw[ajr (by simp;omega),ajr (by simp;omega)]
theorem IX(n:Nat)(F:Nat→PV)(z:PV):tw n 0 F z=List.replicate n z:=by
 unfold tw;apply ajY;intro i;by_cases hi:i<n
 ·simp[hi,aj5]
 ·rw[ajr (by simp;omega),ajr (by simp;omega)]
theorem MT(n:Nat)(F:Nat→PV)(z:PV):tw n n F z=(List.range n).map F:=by unfold tw;apply aj9;intro v hv;rw[BK (ala.1 hv)]
def Kx:Lab→Int
 |none=> -1
 |some (L,_)=>L
theorem ahS(v:Nat)(l:Lab):asInt .i64 (cell (tv v l) 1)=some (Kx l):=by
 cases l with
 |none=>rfl
 |some p=>obtain⟨L,e⟩:=p;rfl
theorem Rc(n:Nat)(hn:n≤64)(o:oZ):gp [.rs 3 (dU n o)]=some (.rs 1 ((List.range n).map fun v=>.int .i64 (Kx (o v)))):=by
 have e0:aP 3 (.rs 3 (dU n o))=some (dU n o):=by simp[aP]
 have e9:(0:Int)≤((n:Nat):Int)∧((n:Nat):Int)≤((n:Nat):Int)∧n*8≤af∧0<8∧0<1:=by refine⟨by omega,by omega,?_,by omega,by omega⟩;unfold af;omega
 simp only[gp,oK,e0,U,rA,ajw,BK e9];refine cj (fun k=>(dU n o,(n:Int),(k:Int),tw n k (fun v=>.int .i64 (Kx (o v))) (.int .i64 0),())) n (fun k hk rec=>?_) (fun rec=>?_) (by unfold rounds;omega) ?_
 ·unfold lJ;dsimp only;have hg:decide ((k:Int)<(n:Int))=true:=by simp;omega
  rw[BK hg,aW,rB o hk,U,ahS,U,BK (Ew (by rw[MQ];exact hk)),ajw,MR hk,U,ag (by omega)];rw[MS (F:=fun v=>PV.int .i64 (Kx (o v))) hk]
 ·unfold lJ;dsimp only;rw[IN (by simp),MT]
 ·rw[IX];rfl
theorem Gg(i n:Nat)(h:i<n):dF [.int .i64 i,.rp [.int .i64 n]]=some (.bool false):=by
 have h1:decide ((i:Int)<0)=false:=by simp
 have h2:decide ((i:Int)≥(n:Int))=false:=by simp;omega
 simp only[dF,oI,G3,U,h1,cond_false,h2]
theorem ed0(y:Ed):cell y.pv 0=.int .i64 y.f:=rfl
theorem YG(E:List Ed)(n:Nat)(hn:n≤64)(hE:E.length≤4096)(h:∀y∈E,y.f<n∧y.t<n∧y.c≤1073741824):jf [.int .i64 n,.rs 3 (E.map Ed.pv),.rs 0 []]=some (.int .i64 0):=by
 have e0:aP 3 (.rs 3 (E.map Ed.pv))=some (E.map Ed.pv):=by simp[aP]
 have e1:aP 1 (.rs 0 [])=some []:=by simp[aP]
 have h1:decide ((n:Int)<0)=false:=by simp
 have h2:decide ((n:Int)>64)=false:=by simp;omega
 have h3:¬decide (((E.map Ed.pv).length:Int)>4096)=true:=by simp;omega
 simp only[jf,sg,G3,e0,e1,U,h1,h2,cond_false,By,abG,IN h3];refine cj (fun k=>(([]:List PV),E.map Ed.pv,((E.map Ed.pv).length:Int),(k:Int),(n:Int),())) E.length (fun k hk rec=>?_) (fun rec=>?_) (by unfold rounds;omega) rfl
 ·unfold nZ;dsimp only;have hg:decide ((k:Int)<((E.map Ed.pv).length:Int))=true:=by simp;omega
  obtain⟨z,hz⟩:∃z,E[k]?=some z:=⟨_,AI hk⟩;have Hf:(E.map Ed.pv)[k]?=some z.pv:=by rw[IT,hz];rfl
  obtain⟨a1,a2,a3⟩:=h z (ah3 hz);have h4:decide ((z.c:Int)<0)=false:=by simp
  have h5:decide ((z.c:Int)>1073741824)=false:=by simp;omega
  simp only[hg,aaV,aW,Hf,U,ed0,ed1,ed2,G3,Gg _ _ a1,Gg _ _ a2,asBool,cond_false,By,abG,h4,h5,ag (show k<9223372036854775807 by omega)]
 ·unfold nZ;dsimp only;rw[IN (by simp)];refine aaP fun rec=>?_;unfold tx;dsimp only;rw[IN (by simp)]
abbrev Ky:=List (Nat×List Ed)
def Kz(z:Ed):Ky→Ky
 |[]=>[(z.f,[z])]
 |(a,l)::r=>if z.f=a then(a,l++[z])::r else(a,l)::Kz z r
def pW(v:Nat):Ky→List Ed
 |[]=>[]
 |(a,l)::r=>if v=a then l else pW v r
def IY(m:Ky):List (PV×PV):=m.map fun x=>(.int .i64 x.1,.qV 3 (x.2.map Ed.pv))
theorem YH(a b:Nat):dW (PV.int .i64 a).cells (PV.int .i64 b).cells=decide (a=b):=by
 have:((a:Int)==(b:Int))=decide (a=b):=by
  by_cases h:a=b
  ·simp[h]
  ·rw[akd h,akm];omega
 simp only[PV.cells,dW,peq,akY,this]
theorem aeO(v:Nat):∀m:Ky,K2 3 (.int .i64 v) (IY m)=some ((pW v m).map Ed.pv)
 |[]=>rfl
 |(a,l)::r=>by
  have ih:=aeO v r;unfold IY at ih⊢;simp only[ajy,K2,pW,YH];by_cases h:v=a
  ·simp[h,fh]
  ·simp only[h,ajU,By,abG];exact ih
theorem Tz(z:Ed):∀m:Ky,fg (.int .i64 z.f) (.qV 3 ((pW z.f m).map Ed.pv++[z.pv])) (tf (.int .i64 z.f) (IY m))=IY (Kz z m)
 |[]=>by simp[IY,tf,fg,Kz,pW]
 |(a,l)::r=>by
  have ih:=Tz z r;unfold IY at ih⊢;simp only[ajy,tf,Kz,pW,YH];by_cases h:z.f=a
  ·subst h;simp[fg,YH]
  ·simp only[h,ajU,By,abG,fg,YH,ajy];rw[ih]
theorem IZ(v:Nat)(z:Ed):∀m:Ky,pW v (Kz z m)=pW v m++(if z.f=v then[z]else[])
 |[]=>by
  simp only[Kz,pW];by_cases h:v=z.f
  ·simp[h]
  ·rw[IN h,IN fun e=>h e.symm];rfl
 |(a,l)::r=>by
  simp only[Kz];by_cases h:z.f=a
  ·subst h;simp only[aaV,pW];by_cases hv:v=z.f
   ·simp[hv]
   ·rw[IN hv,IN hv,IN fun e=>hv e.symm];simp
  ·rw[IN h];simp only[pW];by_cases hv:v=a
   ·subst hv;rw[BK rfl,BK rfl,IN h];simp
   ·rw[IN hv,IN hv];exact IZ v z r
def y9(E:List Ed):Ky:=E.foldl (fun m z=>Kz z m) []
theorem I0(E:List Ed)(z:Ed):y9 (E++[z])=Kz z (y9 E):=by simp[y9]
theorem I1(v:Nat)(E:List Ed):pW v (y9 E)=E.filter fun y=>y.f==v:=by
 rw[←alE E];induction E.reverse with
 |nil=>rfl
 |cons z l ih=>
  rw[alb,I0,IZ,ih,alw];by_cases h:z.f=v
  ·simp[h]
  ·simp[h]
theorem aeP(v:Nat):∀m:Ky,aP 3 (dS (.int .i64 v) (.rs 0 []) (((IY m).map fun x=>x.1).zip ((IY m).map fun x=>x.2.oD)))=some ((pW v m).map Ed.pv)
 |[]=>by simp[IY,dS,aP,pW]
 |(a,l)::r=>by
  have ih:=aeP v r;unfold IY at ih⊢;simp only[ajy,amd,dS,YH,pW];by_cases h:v=a
  ·simp[h,PV.oD,aP]
  ·simp only[h,ajU,By,abG];exact ih
theorem KA(E:List Ed)(hE:E.length≤4096):ff [.rs 3 (E.map Ed.pv),.bool false]=some (.rm 3 ((IY (y9 E)).map fun x=>x.1) ((IY (y9 E)).map fun x=>x.2.oD)):=by
 have e0:aP 3 (.rs 3 (E.map Ed.pv))=some (E.map Ed.pv):=by simp[aP]
 simp only[ff,mJ,e0,U,asBool];refine cj (fun k=>(false,E.map Ed.pv,((E.map Ed.pv).length:Int),(k:Int),IY (y9 (E.take k)),())) E.length (fun k hk rec=>?_) (fun rec=>?_) (by unfold rounds;omega) (by simp[y9,IY])
 ·unfold j3;dsimp only;have hg:decide ((k:Int)<((E.map Ed.pv).length:Int))=true:=by simp;omega
  obtain⟨z,hz⟩:∃z,E[k]?=some z:=⟨_,AI hk⟩;have Hf:(E.map Ed.pv)[k]?=some z.pv:=by rw[IT,hz];rfl
  have htk:E.take (k+1)=E.take k++[z]:=by rw[amw,hz];rfl
  have hce:PV.agg [cell z.pv 0,cell z.pv 1,cell z.pv 2]=z.pv:=rfl;have hlen:((pW z.f (y9 (E.take k))).map Ed.pv++[z.pv]).length*24≤af∧0<24:=by
   have:(pW z.f (y9 (E.take k))).length≤E.length:=by rw[I1];exact ajP (ak1 ..) (by rw[akt];omega)
   simp only[ags,OF,ajv,ajQ];unfold af;omega
  rw[BK hg,aW,Hf,U,IN (by simp)];have ahT:PV.agg [.int .i64 z.f,cell z.pv 1,cell z.pv 2]=z.pv:=rfl;simp only[ed0,G3,U,aeO,ahT,BK hlen];rw[Tz,htk,I0,ag (by omega)]
 ·unfold j3;dsimp only;rw[IN (by simp),akh]
theorem YI(E:List Ed)(n:Nat)(hn:n≤64)(hE:E.length≤4096)(h:∀y∈E,y.f<n∧y.t<n∧y.c≤1073741824):Gr E n ((IY (y9 E)).map fun x=>x.1) ((IY (y9 E)).map fun x=>x.2.oD):=⟨by omega,by omega,h,fun v _=>by rw[aeP,I1]⟩
end Go.Ab.Nw
