import Derived.Test.YtmbihgjlollbeaaGreatAbLib
import Derived.Test.YtmbihgjlollbeaaGreatSh6
namespace Go.Ab.Nw
section
variable (w:Nat→Nat→Nat→Prop)
def DF:Nat→Nat→Nat→Nat→Prop
 |0,i,j,L=>w i j L
 |k+1,i,j,L=>DF k i j L∨∃A B,DF k i k A∧DF k k j B∧L=A+B
inductive lI:Nat→Nat→Nat→Prop
 |F2 {i j c:Nat}:w i j c→lI i j c
 |snoc {i m j A c:Nat}:lI i m A→w m j c→lI i j (A+c)
end
section
variable {w:Nat→Nat→Nat→Prop}
variable{i j L:Nat}
theorem DF.up{k:Nat}(h:DF w k i j L):DF w (k+1) i j L:=.inl h
theorem DF.le{k k':Nat}(hk:k≤k')(h:DF w k i j L):DF w k' i j L:=by
 induction hk with
 |refl=>omega
 |step _ ih=>exact ih.up
theorem Bs:∀(k:Nat){m i j A B:Nat},m<k→DF w k i m A→DF w k m j B→∃C,C≤A+B∧DF w k i j C
 |0,_,_,_,_,_,h,_,_=>by omega
 |k+1,m,i,j,A,B,h,ha,hb=>by
  by_cases hm:m=k
  ·subst hm;have h1:∃A',A'≤A∧DF w m i m A':=by
    rcases ha with ha|⟨X,Y,x,y,e⟩
    ·grind
    grind
   have h2:∃B',B'≤B∧DF w m m j B':=by
    rcases hb with hb|⟨X,Y,x,y,e⟩
    ·grind
    grind
   obtain⟨A',a1,a2⟩:=h1;obtain⟨B',b1,b2⟩:=h2;exact⟨A'+B',by omega,.inr ⟨A',B',a2,b2,rfl⟩⟩
  ·have bT:m<k:=by omega
   rcases ha with ha|⟨X,Y,x,y,e⟩
   ·rcases hb with hb|⟨X',Y',x',y',e'⟩
    ·obtain⟨C,c1,c2⟩:=Bs k bT ha hb;exact⟨C,c1,.inl c2⟩
    ·obtain⟨C,c1,c2⟩:=Bs k bT ha x';exact⟨C+Y',by omega,.inr ⟨C,Y',c2,y',rfl⟩⟩
   ·rcases hb with hb|⟨X',Y',x',y',e'⟩
    ·obtain⟨C,c1,c2⟩:=Bs k bT y hb;exact⟨X+C,by omega,.inr ⟨X,C,x,c2,rfl⟩⟩
    ·exact⟨X+Y',by omega,.inr ⟨X,Y',x,y',rfl⟩⟩
theorem lI.join{m A B:Nat}(h1:lI w i m A)(h2:lI w m j B):lI w i j (A+B):=by
 induction h2 with
 |F2 h=>exact .snoc h1 h
 |snoc _ h ih=>rw[←ajU];exact .snoc ih h
theorem DF.walk:∀{k i j L:Nat},DF w k i j L→lI w i j L
 |0,_,_,_,h=>.F2 h
 |k+1,i,j,L,.inl h=>DF.walk (k:=k) h
 |k+1,i,j,L,.inr ⟨A,B,h1,h2,e⟩=>by rw[e];exact(DF.walk (k:=k) h1).join (DF.walk (k:=k) h2)
theorem lI.via{n:Nat}(hn:∀i j c,w i j c→i<n)(h:lI w i j L):∃C,C≤L∧DF w n i j C:=by
 induction h with
 |F2 h=>exact⟨_,ajo _,DF.le (ak6 _) (show DF w 0 _ _ _ from h)⟩
 |snoc _ h ih=>obtain⟨C,c1,c2⟩:=ih;obtain⟨D,d1,d2⟩:=Bs n (hn _ _ _ h) c2 (DF.le (ak6 _) (show DF w 0 _ _ _ from h));grind
variable{w':Nat→Nat→Nat→Prop}
theorem lI.mono(hw:∀i j c,w i j c→w' i j c)(h:lI w i j L):lI w' i j L:=by
 induction h with
 |F2 h=>exact .F2 (hw _ _ _ h)
 |snoc _ h ih=>exact .snoc ih (hw _ _ _ h)
theorem lI.leq(hw:∀i j c,w i j c→∃c',c'≤c∧w' i j c')(h:lI w i j L):∃L',L'≤L∧lI w' i j L':=by
 induction h with
 |F2 h=>obtain⟨c',h1,h2⟩:=hw _ _ _ h;exact⟨c',h1,.F2 h2⟩
 |snoc _ h ih=>obtain⟨c',h1,h2⟩:=hw _ _ _ h;obtain⟨L',l1,l2⟩:=ih;exact⟨L'+c',by omega,.snoc l2 h2⟩
def Qc(w:Nat→Nat→Nat→Prop)(i j:Nat)(o:Option Nat):Prop:=match o with
 |some L=>lI w i j L∧∀L',lI w i j L'→L≤L'
 |none=>∀L',¬lI w i j L'
theorem Qc.unique{o o':Option Nat}(h:Qc w i j o)(h':Qc w i j o'):o=o':=by
 cases o with
 |none=>cases o' with
  |none=>rfl
  |some L=>exact absurd h'.1 (h L)
 |some L=>cases o' with
  |none=>exact absurd h.1 (h' L)
  |some L'=>rw[Nat.le_antisymm (h.2 _ h'.1) (h'.2 _ h.1)]
structure Fw(w:Nat→Nat→Nat→Prop)(inf:Nat)(n:Nat)(d:Nat→Nat→Nat):Prop where
 top:∀i j,i<n→j<n→d i j≤inf
 real:∀i j,i<n→j<n→d i j<inf→lI w i j (d i j)
def so(w:Nat→Nat→Nat→Prop)(k i j:Nat)(x:Nat):Prop:=∀L,DF w k i j L→x≤L
variable{d:Nat→Nat→Nat}
theorem ZX{inf n k:Nat}(h:Fw w inf n d)(hi:i<n)(hj:j<n)(hk:k<n){x:Nat}(hx:x=min (d i j) (d i k+d k j)){d':Nat→Nat→Nat}(hd:∀a b,d' a b=if a=i∧b=j then x else d a b):Fw w inf n d'∧(∀a b,d' a b≤d a b)∧(so w k i k (d i k)→so w k k j (d k j)→so w k i j (d i j)→so w (k+1) i j (d' i j)):=by
 refine⟨⟨fun a b ha hb=>?_,fun a b ha hb bT=>?_⟩,fun a b=>?_,fun h1 h2 h3 L hL=>?_⟩
 ·rw[hd];split
  ·have:=h.top i j hi hj;omega
  ·exact h.top a b ha hb
 ·rw[hd]at bT⊢;split
  ·rename_i e;rw[GW e]at bT;obtain⟨rfl,rfl⟩:=e;by_cases hm:d a b≤d a k+d k b
   ·rw[show x=d a b by omega]at bT⊢;exact h.real a b ha hb bT
   ·have e2:x=d a k+d k b:=by omega
    rw[e2]at bT⊢;exact(h.real a k ha hk (by omega)).join (h.real k b hk hb (by omega))
  ·rename_i e;rw[No e]at bT;exact h.real a b ha hb bT
 ·grind
 ·rw[hd,GW ⟨rfl,rfl⟩];rcases hL with hL|⟨A,B,a1,a2,e⟩
  ·have:=h3 _ hL;omega
  ·have:=h1 _ a1;have:=h2 _ a2;omega
theorem ZY{inf n:Nat}(hn:∀i j c,w i j c→i<n)(h:Fw w inf n d)(hi:i<n)(hj:j<n)(hb:so w n i j (d i j))(qI:∀L,(∀L',lI w i j L'→L≤L')→lI w i j L→L<inf):Qc w i j (if d i j<inf then some (d i j)else none):=by
 have low:∀L,lI w i j L→d i j≤L:=fun L hL=>by obtain⟨C,c1,c2⟩:=hL.via hn;exact ajQ (hb C c2) c1
 split
 ·rename_i bT;exact⟨h.real i j hi hj bT,low⟩
 ·rename_i GC;intro L hL;have key:∀m,(∃L,L≤m∧lI w i j L)→∃L,lI w i j L∧∀L',lI w i j L'→L≤L':=by
   intro m;induction m with
   |zero=>grind
   |succ m ih=>
    rintro⟨L,hl,hw⟩;by_cases he:∃L,L≤m∧lI w i j L
    ·exact ih he
    grind
  obtain⟨L0,h1,h2⟩:=key L ⟨L,ajo _,hL⟩;grind
end
structure Nd where
 n:Nat
 len:Nat
 e:Nat
 num:Nat
 deriving DecidableEq,Inhabited
def GR(a b:Nd):Bool:=decide (a.len<b.len∨(a.len=b.len∧(a.e<b.e∨(a.e=b.e∧a.num<b.num))))
def vF(a b:Nd):Prop:=GR b a=false
theorem Qd(a b:Nd):GR a b=true↔(a.len<b.len∨(a.len=b.len∧(a.e<b.e∨(a.e=b.e∧a.num<b.num)))):=by simp[GR]
theorem Bt(a b:Nd):vF a b↔¬(b.len<a.len∨(b.len=a.len∧(b.e<a.e∨(b.e=a.e∧b.num<a.num)))):=by unfold vF;rw[←Qd];simp
theorem Cu(a:Nd):vF a a:=by rw[Bt];omega
theorem vG{a b c:Nd}(h:vF a b)(k:vF b c):vF a c:=by rw[Bt]at*;omega
theorem xK{a b:Nd}(h:GR a b=true):vF a b:=by grind [Bt,Qd]
theorem V5{a b:Nd}(h:vF a b):a.len≤b.len:=by rw[Bt]at h;omega
def dQ(a:List Nd)(i:Nat):Nd:=a.getD i default
variable{a:List Nd}{i:Nat}
theorem Ju(h:i<a.length):a[i]?=some (dQ a i):=by simp[dQ,List.getD,h]
def swp(a:List Nd)(i k:Nat):List Nd:=(a.set i (dQ a k)).set k (dQ a i)
@[simp] theorem jV(a:List Nd)(i k:Nat):(swp a i k).length=a.length:=by simp[swp]
theorem acv(a:List Nd)(i j:Nat)(x:Nd)(h:i<a.length):dQ (a.set i x) j=if j=i then x else dQ a j:=by unfold dQ List.getD;grind
theorem nU(a:List Nd)(i k j:Nat)(hi:i<a.length)(hk:k<a.length):dQ (swp a i k) j=if j=k then dQ a i else if j=i then dQ a k else dQ a j:=by simp_all[swp,acv]
theorem Cv{x:Nd}:x∈a↔∃i,i<a.length∧dQ a i=x:=by
 rw[ajH];constructor
 ·grind [Ju]
 ·rintro⟨i,hi,h⟩;exact⟨i,by rw[Ju hi,h]⟩
theorem DX{k:Nat}(hi:i<a.length)(hk:k<a.length)(x:Nd):x∈swp a i k↔x∈a:=by
 rw[Cv,Cv];constructor
 ·rintro⟨j,hj,h⟩;rw[nU _ _ _ _ hi hk]at h;split at h
  ·exact⟨i,hi,h⟩
  ·split at h
   ·exact⟨k,hk,h⟩
   ·exact⟨j,by simpa using hj,h⟩
 ·rintro⟨j,hj,h⟩;by_cases e1:j=i
  ·subst e1;refine⟨k,by simpa using hk,?_⟩;rw[nU _ _ _ _ hi hk,GW rfl,h]
  ·by_cases e2:j=k
   ·subst e2;refine⟨i,by simpa using hi,?_⟩;rw[nU _ _ _ _ hi hk];simp_all
   ·exact⟨j,by simpa using hj,by simp_all[nU,No]⟩
def Hp(a:List Nd):Prop:=∀j,0<j→j<a.length→vF (dQ a ((j-1)/2)) (dQ a j)
theorem Hp.min(h:Hp a):∀j,j<a.length→vF (dQ a 0) (dQ a j):=by
 intro j;induction j using Nat.strongRecOn with
 |ind j ih=>
  intro hj;by_cases h0:j=0
  ·subst h0;exact Cu _
  ·exact vG (ih ((j-1)/2) (by omega) (by omega)) (h j (by omega) hj)
def ZZ(a:List Nd)(i:Nat):Prop:=(∀j,0<j→j<a.length→j≠i→vF (dQ a ((j-1)/2)) (dQ a j))∧∀c,0<c→c<a.length→(c-1)/2=i→0<i→vF (dQ a ((i-1)/2)) (dQ a c)
theorem ZZ.done(h:ZZ a i)(hi:i<a.length)(hs:i=0∨GR (dQ a i) (dQ a ((i-1)/2))=false):Hp a:=by
 intro j h0 hj;by_cases e:j=i
 ·subst e;rcases hs with hs|hs
  ·omega
  ·exact hs
 ·exact h.1 j h0 hj e
theorem ZZ.step(h:ZZ a i)(h0:0<i)(hi:i<a.length)(hb:GR (dQ a i) (dQ a ((i-1)/2))=true):ZZ (swp a i ((i-1)/2)) ((i-1)/2):=by
 have hp:(i-1)/2<a.length:=by omega
 have hpi:(i-1)/2<i:=by omega
 obtain⟨p,IQ⟩:∃p,p=(i-1)/2:=⟨_,rfl⟩;rw[←IQ]at hp hpi hb⊢;have hle:=xK hb;refine⟨fun j j0 hj cJ=>?_,fun c c0 hc hcp JQ=>?_⟩
 ·rw[jV]at hj;rw[nU _ _ _ _ hi hp,nU _ _ _ _ hi hp,No cJ];by_cases e1:j=i
  ·simp_all
  ·rw[No e1];by_cases e2:(j-1)/2=p
   ·rw[GW e2];have:=h.1 j j0 hj e1;grind [vG]
   ·rw[No e2];by_cases e3:(j-1)/2=i
    ·rw[GW e3];have:=h.2 j j0 hj e3 h0;simp_all
    ·rw[No e3];exact h.1 j j0 hj e1
 ·rw[jV]at hc;have hpp:(p-1)/2≠p∧(p-1)/2≠i:=by omega
  rw[nU _ _ _ _ hi hp,nU _ _ _ _ hi hp,No hpp.1,No hpp.2];have h1:=h.1 p JQ hp (by omega);by_cases e1:c=p
  ·omega
  ·rw[No e1];by_cases e2:c=i
   ·rw[GW e2];omega
   ·rw[No e2];have:=h.1 c c0 hc e2;grind [vG]
theorem ZZ.start(h:Hp a)(x:Nd):ZZ (a++[x]) a.length:=by
 have UX:∀j,j<a.length→dQ (a++[x]) j=dQ a j:=fun j hj=>by simp[dQ,List.getD,aj4 hj]
 refine⟨fun j j0 hj cJ=>?_,fun c c0 hc hcp h0=>?_⟩
 ·have:j<a.length:=by simp at hj;omega
  rw[UX _ (by omega),UX _ this];exact h j j0 this
 ·simp at hc;omega
def Z0(a:List Nd)(i:Nat):Prop:=(∀j,0<j→j<a.length→(j-1)/2≠i→vF (dQ a ((j-1)/2)) (dQ a j))∧∀c,0<c→c<a.length→(c-1)/2=i→0<i→vF (dQ a ((i-1)/2)) (dQ a c)
theorem Z0.done(h:Z0 a i)(hs:∀c,0<c→c<a.length→(c-1)/2=i→vF (dQ a i) (dQ a c)):Hp a:=by
 intro j h0 hj;by_cases e:(j-1)/2=i
 ·simp_all
 ·exact h.1 j h0 hj e
theorem Z0.step{k:Nat}(h:Z0 a i)(hk:k<a.length)(hki:k=2*i+1∨k=2*i+2)(adJ:∀c,0<c→c<a.length→(c-1)/2=i→vF (dQ a k) (dQ a c))(hb:GR (dQ a k) (dQ a i)=true):Z0 (swp a i k) k:=by
 have hi:i<a.length:=by omega
 have hle:=xK hb;have hpk:(k-1)/2=i:=by omega
 refine⟨fun j j0 hj cJ=>?_,fun c c0 hc hcp hk0=>?_⟩
 ·rw[jV]at hj;rw[nU _ _ _ _ hi hk,nU _ _ _ _ hi hk,No cJ];by_cases e1:j=k
  ·simp_all
  ·rw[No e1];by_cases e2:(j-1)/2=i
   ·grind
   ·rw[No e2];by_cases e3:j=i
    ·rw[GW e3];have:=h.2 k (by omega) hk hpk (by omega);rw[e3];omega
    ·rw[No e3];exact h.1 j j0 hj e2
 ·rw[jV]at hc;rw[nU _ _ _ _ hi hk,nU _ _ _ _ hi hk,hpk,No (by omega),GW rfl,No (by omega),No (by omega)];have:=h.1 c c0 hc (by omega);simp_all
theorem Z0.start(h:Hp a)(cJ:0<a.length):Z0 ((swp a 0 (a.length-1)).take (a.length-1)) 0:=by
 have hl:((swp a 0 (a.length-1)).take (a.length-1)).length=a.length-1:=by simp
 have UX:∀j,0<j→j<a.length-1→dQ ((swp a 0 (a.length-1)).take (a.length-1)) j=dQ a j:=fun j j0 hj=>by
  have:dQ ((swp a 0 (a.length-1)).take (a.length-1)) j=dQ (swp a 0 (a.length-1)) j:=by simp[dQ,List.getD,akI hj]
  rw[this,nU _ _ _ _ (by omega) (by omega),No (by omega),No (by omega)]
 refine⟨fun j j0 hj cJ=>?_,fun c _ _ _ h0=>by omega⟩;rw[hl]at hj;rw[UX j j0 hj,UX _ (by omega) (by omega)];exact h j j0 (by omega)
theorem Qe(cJ:0<a.length)(y:Nd):(y∈(swp a 0 (a.length-1)).take (a.length-1)→y∈a)∧(y∈a→y=dQ a 0∨y∈(swp a 0 (a.length-1)).take (a.length-1)):=by
 refine⟨fun h=>(DX cJ (by omega) y).1 (akn h),fun h=>?_⟩;have h:=(DX (i:=0) (k:=a.length-1) cJ (by omega) y).2 h;rw[Cv]at h;obtain⟨j,hj,e⟩:=h;rw[jV]at hj;by_cases hl:j=a.length-1
 ·simp_all[nU,GW]
 ·right;rw[ajH];refine⟨j,?_⟩;rw[akI (by omega),Ju (by simpa using hj),e]
theorem SM{S R A:Type}{body:S→(S→Option R)→Option R}(st:A→S)(I:A→Prop)(m:A→Nat)(fin:A→Option R→Prop)(h:∀a,I a→∀rec,(∃a',I a'∧m a'<m a∧body (st a) rec=rec (st a'))∨(∃r,fin a r∧body (st a) rec=r)):∀N a,I a→m a<N→∃a' r,I a'∧fin a' r∧cA body N (st a)=r:=by
 intro N;induction N with
 |zero=>omega
 |succ N ih=>
  intro a hI hm;simp only[cA];rcases h a hI (cA body N)with⟨a',h1,h2,h3⟩|⟨r,h1,h2⟩
  ·grind
  grind
def up:Nat→List Nd→Nat→List Nd
 |0,a,_=>a
 |f+1,a,i=>if 0<i∧GR (dQ a i) (dQ a ((i-1)/2))=true then up f (swp a i ((i-1)/2)) ((i-1)/2)else a
def push(a:List Nd)(x:Nd):List Nd:=up (a.length+1) (a++[x]) a.length
def H3(a:List Nd)(i:Nat):Nat:=if 2*i+1+1<a.length∧GR (dQ a (2*i+1+1)) (dQ a (2*i+1))=true then 2*i+1+1 else 2*i+1
def down:Nat→List Nd→Nat→List Nd
 |0,a,_=>a
 |f+1,a,i=>if a.length≤2*i+1 then a else if GR (dQ a (H3 a i)) (dQ a i)=true then down f (swp a i (H3 a i)) (H3 a i)else a
def Ou(a:List Nd):List Nd:=(swp a 0 (a.length-1)).take (a.length-1)
def rest(a:List Nd):List Nd:=down (a.length+1) (Ou a) 0
theorem aa6:∀(f:Nat){a:List Nd}{i:Nat},i<f→i<a.length→ZZ a i→Hp (up f a i)∧(up f a i).length=a.length∧∀x,x∈up f a i↔x∈a
 |0,_,_,h,_,_=>by omega
 |f+1,a,i,hf,hi,h=>by
  unfold up;split
  ·rename_i hc;have hp:(i-1)/2<a.length:=by omega
   obtain⟨h1,h2,h3⟩:=aa6 f (a:=swp a i ((i-1)/2)) (i:=(i-1)/2) (by omega) (by rw[jV];omega) (h.step hc.1 hi hc.2);simp_all[jV,DX]
  ·rename_i hc;refine⟨h.done hi ?_,rfl,fun x=>Iff.rfl⟩;grind
variable{a:List Nd}
theorem Z1(h:Hp a)(x:Nd):Hp (push a x)∧(push a x).length=a.length+1∧∀y,y∈push a x↔y∈a∨y=x:=by simp_all[aa6,ZZ.start,push]
theorem V6{i:Nat}(h:¬a.length≤2*i+1):H3 a i<a.length∧(H3 a i=2*i+1∨H3 a i=2*i+2)∧∀c,0<c→c<a.length→(c-1)/2=i→vF (dQ a (H3 a i)) (dQ a c):=by
 unfold H3;split
 ·rename_i hc;refine⟨by omega,.inr rfl,fun c c0 hl hp=>?_⟩;have:c=2*i+1∨c=2*i+1+1:=by omega
  rcases this with rfl|rfl
  ·exact xK hc.2
  ·exact Cu _
 ·rename_i hc;refine⟨by omega,.inl rfl,fun c c0 hl hp=>?_⟩;have:c=2*i+1∨c=2*i+1+1:=by omega
  rcases this with rfl|rfl
  ·exact Cu _
  ·unfold vF;simp_all
theorem Qf:∀(f:Nat){a:List Nd}{i:Nat},a.length≤f+i→Z0 a i→Hp (down f a i)∧(down f a i).length=a.length∧∀x,x∈down f a i↔x∈a
 |0,a,i,hf,h=>⟨h.done fun c c0 hc hp=>by omega,rfl,fun x=>Iff.rfl⟩
 |f+1,a,i,hf,h=>by
  unfold down;split
  ·exact⟨h.done fun c c0 hc hp=>by omega,rfl,fun x=>Iff.rfl⟩
  ·rename_i hl;obtain⟨k1,k2,k3⟩:=V6 hl;split
   ·rename_i hb;obtain⟨h1,h2,h3⟩:=Qf f (a:=swp a i (H3 a i)) (i:=H3 a i) (by rw[jV];omega) (h.step k1 k2 k3 hb);grind [jV,DX]
   ·rename_i hb;refine⟨h.done fun c c0 hc hp=>vG ?_ (k3 c c0 hc hp),rfl,fun x=>Iff.rfl⟩;simp_all[vF,aj9]
theorem Jv(h:Hp a)(cJ:0<a.length):Hp (rest a)∧(rest a).length=a.length-1∧(∀y∈rest a,y∈a)∧(∀y∈a,y=dQ a 0∨y∈rest a)∧∀y∈a,(dQ a 0).len≤y.len:=by
 have hl:(Ou a).length=a.length-1:=by simp[Ou]
 obtain⟨h1,h2,h3⟩:=Qf (a.length+1) (a:=Ou a) (i:=0) (by omega) (Z0.start h cJ);refine⟨h1,by unfold rest;omega,fun y hy=>?_,fun y hy=>?_,fun y hy=>?_⟩
 ·exact(Qe cJ y).1 ((h3 y).1 hy)
 ·rcases(Qe cJ y).2 hy with h|h
  ·exact .inl h
  ·exact .inr ((h3 y).2 h)
 ·obtain⟨j,hj,rfl⟩:=Cv.1 hy;exact V5 (h.min j hj)
structure Ed where
 f:Nat
 t:Nat
 c:Nat
 deriving DecidableEq,Inhabited
def ew(E:List Ed)(i j c:Nat):Prop:=(⟨i,j,c⟩:Ed)∈E
abbrev Lab:=Option (Nat×Nat)
abbrev oQ:=Nat→Lab
def yZ(o:oQ)(v:Nat)(l:Lab):oQ:=fun u=>if u=v then l else o u
def xL(E:List Ed)(o:oQ):Nat:=E.countP fun y=>(o y.f).isNone
def GS(n:Nat)(o:oQ):Nat:=(List.range n).countP fun v=>(o v).isSome
def Jw(E:List Ed)(s v L:Nat):Prop:=(v=s∧L=0)∨lI (ew E) s v L
structure DI(E:List Ed)(n s B:Nat)(o:oQ)(pu:Nat)(H:List Nd):Prop where
 hp:Hp H
 node:∀x∈H,x.n<n
 real:∀x∈H,Jw E s x.n x.len
 mV:∀v L e,v<n→o v=some (L,e)→Jw E s v L∧∀L',Jw E s v L'→L≤L'
 front:∀u L e v c,u<n→o u=some (L,e)→(⟨u,v,c⟩:Ed)∈E→o v=none→∃x∈H,x.n=v∧x.len≤L+c
 src:o s=none→∃x∈H,x.n=s∧x.len=0
 V7:∀x∈H,x.len≤B*GS n o∧x.e≤GS n o
 acw:∀v L e,v<n→o v=some (L,e)→L≤B*n∧e≤n
 ZQ:pu+xL E o≤1+E.length
 acx:H.length≤pu
theorem Qg(n:Nat)(o:oQ):GS n o≤n:=by grind [GS,List.countP_le_length,List.range]
theorem Dk{A:Type}[DecidableEq A]{p q:A→Bool}{v:A}:∀{l:List A},l.Nodup→v∈l→(∀u,u≠v→p u=q u)→p v=false→q v=true→l.countP q=l.countP p+1
 |a::l,hn,hv,hpq,h0,h1=>by
  rw[alq]at hn;rw[ako,ako];by_cases e:a=v
  ·grind [List.countP_congr]
  ·have T2:v∈l:=by grind
   rw[Dk hn.2 T2 hpq h0 h1,hpq a e];omega
variable{o:oQ}
theorem V8{n:Nat}{v:Nat}{l:Nat×Nat}(hv:v<n)(h:o v=none):GS n (yZ o v (some l))=GS n o+1:=Dk (p:=fun v=>(o v).isSome) (q:=fun u=>(yZ o v (some l) u).isSome) (v:=v) List.nodup_range (aj5.2 hv) (fun u hu=>by simp[yZ,hu]) (by simp[h]) (by simp[yZ])
theorem DI.least{E:List Ed}{n s B:Nat}{pu:Nat}{H:List Nd}(h:DI E n s B o pu H)(hE:∀y∈E,y.f<n∧y.t<n){v L:Nat}(hv:o v=none)(hw:Jw E s v L):∃x∈H,x.len≤L:=by
 cases hs:o s with
 |none=>obtain⟨x,h1,_,h2⟩:=h.src hs;grind
 |some l=>
  obtain⟨Ls,es⟩:=l;rcases hw with⟨rfl,_⟩|hw
  ·rw[hs]at hv;cases hv
  have key:∀{v L:Nat},lI (ew E) s v L→o v=none→∃x∈H,x.len≤L:=by
   intro v L hw;induction hw with
   | @F2 j c hc=>intro hv;have pR:s<n:=(hE _ hc).1;obtain⟨x,h1,_,h2⟩:=h.front s Ls es j c pR hs hc hv;have:=(h.mV s Ls es pR hs).2 0 (.inl ⟨rfl,rfl⟩);grind
   | @snoc m j A c hA hc ih=>
    intro hv;cases hm:o m with
    |none=>grind
    |some l=>obtain⟨Lm,em⟩:=l;have pR:m<n:=(hE _ hc).1;obtain⟨x,h1,_,h2⟩:=h.front m Lm em j c pR hm hc hv;have:=(h.mV m Lm em pR hm).2 A (.inr hA);grind
  exact key hw hv
theorem DI.skip{E:List Ed}{n s B:Nat}{pu:Nat}{H:List Nd}(h:DI E n s B o pu H)(cJ:0<H.length)(sL:(o (dQ H 0).n).isSome=true):DI E n s B o pu (rest H):=by
 obtain⟨r1,r2,r3,r4,r5⟩:=Jv h.hp cJ;have other:∀x∈H,o x.n=none→x∈rest H:=fun x hx hn=>by grind
 refine⟨r1,fun x hx=>h.node x (r3 x hx),fun x hx=>h.real x (r3 x hx),h.mV,fun u L e v c hu ho he hv=>?_,fun hs=>?_,fun x hx=>h.V7 x (r3 x hx),h.acw,h.ZQ,by rw[r2];have:=h.acx;omega⟩
 ·obtain⟨x,x1,x2,x3⟩:=h.front u L e v c hu ho he hv;grind
 ·obtain⟨x,x1,x2,x3⟩:=h.src hs;grind
def oz(o:oQ)(x:Nd):List Ed→Nat→List Nd→Nat×List Nd
 |[],pu,H=>(pu,H)
 |z::es,pu,H=>if(o z.t).isNone=true then oz o x es (pu+1) (push H ⟨z.t,x.len+z.c,x.e+1,pu⟩)else oz o x es pu H
theorem F3{o:oQ}{x:Nd}:∀{es:List Ed}{pu:Nat}{H:List Nd},Hp H→∃k,k≤es.length∧(oz o x es pu H).1=pu+k∧(oz o x es pu H).2.length=H.length+k∧Hp (oz o x es pu H).2∧(∀y∈(oz o x es pu H).2,y∈H∨∃z∈es,o z.t=none∧y.n=z.t∧y.len=x.len+z.c∧y.e=x.e+1)∧(∀y∈H,y∈(oz o x es pu H).2)∧∀z∈es,o z.t=none→∃y∈(oz o x es pu H).2,y.n=z.t∧y.len=x.len+z.c
 |[],pu,H,h=>⟨0,ajo _,rfl,rfl,h,fun y hy=>.inl hy,fun y hy=>hy,fun z hz=>by cases hz⟩
 |z::es,pu,H,h=>by
  unfold oz;split
  ·rename_i hz;have hz:o z.t=none:=by simpa using hz
   obtain⟨p1,p2,p3⟩:=Z1 h ⟨z.t,x.len+z.c,x.e+1,pu⟩;obtain⟨k,k1,k2,k3,k4,k5,k6,k7⟩:=F3 (o:=o) (x:=x) (es:=es) (pu:=pu+1) p1;refine⟨k+1,by simp;omega,by omega,by omega,k4,fun y hy=>?_,fun y hy=>k6 y ((p3 y).2 (.inl hy)),fun z' hz' hn=>?_⟩
   ·grind
   ·rcases aih.1 hz' with rfl|hz'
    ·exact⟨_,k6 _ ((p3 _).2 (.inr rfl)),rfl,rfl⟩
    ·exact k7 z' hz' hn
  ·rename_i hz;obtain⟨k,k1,k2,k3,k4,k5,k6,k7⟩:=F3 (o:=o) (x:=x) (es:=es) (pu:=pu) h;refine⟨k,by simp;omega,k2,k3,k4,fun y hy=>?_,k6,fun z' hz' hn=>?_⟩
   ·simp_all
   grind
theorem V9(E:List Ed)(o:oQ)(v:Nat)(l:Nat×Nat)(h:o v=none):xL E o=xL E (yZ o v (some l))+(E.filter fun y=>y.f==v).length:=by
 unfold xL;induction E with
 |nil=>rfl
 |cons y E ih=>grind [yZ]
variable{E:List Ed}
theorem DI.settle{n s B:Nat}{o:oQ}{pu:Nat}{H:List Nd}(h:DI E n s B o pu H)(hE:∀y∈E,y.f<n∧y.t<n∧y.c≤B)(cJ:0<H.length)(DS:o (dQ H 0).n=none):DI E n s B (yZ o (dQ H 0).n (some ((dQ H 0).len,(dQ H 0).e))) (oz (yZ o (dQ H 0).n (some ((dQ H 0).len,(dQ H 0).e))) (dQ H 0) (E.filter fun y=>y.f==(dQ H 0).n) pu (rest H)).1 (oz (yZ o (dQ H 0).n (some ((dQ H 0).len,(dQ H 0).e))) (dQ H 0) (E.filter fun y=>y.f==(dQ H 0).n) pu (rest H)).2∧(oz (yZ o (dQ H 0).n (some ((dQ H 0).len,(dQ H 0).e))) (dQ H 0) (E.filter fun y=>y.f==(dQ H 0).n) pu (rest H)).2.length+xL E (yZ o (dQ H 0).n (some ((dQ H 0).len,(dQ H 0).e)))<H.length+xL E o:=by
 obtain⟨r1,r2,r3,r4,r5⟩:=Jv h.hp cJ;obtain⟨x,hx⟩:∃x,x=dQ H 0:=⟨_,rfl⟩;rw[←hx]at DS r4 r5⊢;have hxm:x∈H:=Cv.2 ⟨0,cJ,hx.symm⟩;have hxn:=h.node x hxm;obtain⟨o1,ho1⟩:∃o1,o1=yZ o x.n (some (x.len,x.e)):=⟨_,rfl⟩;rw[←ho1];have oo:∀v,o1 v=if v=x.n then some (x.len,x.e)else o v:=fun v=>by rw[ho1];rfl
 have on:∀v,o1 v=none→v≠x.n∧o v=none:=fun v hv=>by grind
 obtain⟨k,k1,k2,k3,k4,k5,k6,k7⟩:=F3 (o:=o1) (x:=x) (es:=E.filter fun y=>y.f==x.n) (pu:=pu) r1;have hs:GS n o1=GS n o+1:=by rw[ho1];exact V8 hxn DS
 have RM:xL E o=xL E o1+(E.filter fun y=>y.f==x.n).length:=by grind [V9]
 have mem:∀z,z∈(E.filter fun y=>y.f==x.n)↔z∈E∧z.f=x.n:=fun z=>by simp[alW]
 have go:∀z,z∈E→z.f=x.n→lI (ew E) s z.t (x.len+z.c):=fun z hz hf=>by
  have he:ew E x.n z.t z.c:=by
   unfold ew;have:(⟨x.n,z.t,z.c⟩:Ed)=z:=by rw[←hf]
   rw[this];omega
  rcases h.real x hxm with⟨e1,e2⟩|hw
  ·rw[e2,aj0];rw[e1]at he;exact .F2 he
  ·exact .snoc hw he
 have other:∀y∈H,y.n≠x.n→y∈(oz o1 x (E.filter fun y=>y.f==x.n) pu (rest H)).2:=fun y hy hn=>by grind
 refine⟨⟨k4,fun y hy=>?_,fun y hy=>?_,fun v L e hv ho=>?_,fun u L e v c hu ho he hv=>?_,fun hs'=>?_,fun y hy=>?_,fun v L e hv ho=>?_,?_,?_⟩,?_⟩
 ·rcases k5 y hy with h1|⟨z,z1,z2,z3,_⟩
  ·exact h.node y (r3 y h1)
  grind
 ·rcases k5 y hy with h1|⟨z,z1,z2,z3,z4,_⟩
  ·exact h.real y (r3 y h1)
  ·rw[z3,z4];exact .inr (go z ((mem z).1 z1).1 ((mem z).1 z1).2)
 ·rw[oo]at ho;split at ho
  ·rename_i e';simp only[cN,aab]at ho;obtain⟨rfl,rfl⟩:=ho;subst e';refine⟨h.real x hxm,fun L' hL=>?_⟩;obtain⟨y,y1,y2⟩:=h.least (fun y hy=>⟨(hE y hy).1,(hE y hy).2.1⟩) DS hL;grind
  ·exact h.mV v L e hv ho
 ·obtain⟨v1,v2⟩:=on v hv;rw[oo]at ho;split at ho
  ·grind
  ·obtain⟨y,y1,y2,y3⟩:=h.front u L e v c hu ho he v2;grind
 ·obtain⟨v1,v2⟩:=on s hs';obtain⟨y,y1,y2,y3⟩:=h.src v2;grind
 ·rw[hs,Nat.mul_succ];rcases k5 y hy with h1|⟨z,z1,z2,z3,z4,z5⟩
  ·have:=h.V7 y (r3 y h1);omega
  ·have:=h.V7 x hxm;grind
 ·rw[oo]at ho;split at ho
  ·simp only[cN,aab]at ho;obtain⟨rfl,rfl⟩:=ho;have h1:=h.V7 x hxm;have h2:=Qg n o;have h3:B*GS n o≤B*n:=akz _ h2;omega
  ·exact h.acw v L e hv ho
 ·have:=h.ZQ;omega
 ·have:=h.acx;omega
 omega
theorem DI.start{n s B:Nat}(hs:s<n):DI E n s B (fun _=>none) 1 [⟨s,0,0,0⟩]:=by
 refine⟨fun j j0 hj=>by simp at hj;omega,fun x hx=>?_,fun x hx=>?_,fun v L e _ h=>(by cases h),fun u L e v c _ h=>(by cases h),fun _=>⟨⟨s,0,0,0⟩,by simp,rfl,rfl⟩,fun x hx=>?_,fun v L e _ h=>(by cases h),?_,by simp⟩
 ·simp_all
 ·simp at hx;subst hx;exact .inl ⟨rfl,rfl⟩
 ·simp_all
 simp[xL]
theorem DI.done{n s B:Nat}{o:oQ}{pu:Nat}(h:DI E n s B o pu [])(hE:∀y∈E,y.f<n∧y.t<n∧y.c≤B){v:Nat}(hv:v<n):match o v with
 |some (L,_)=>L≤B*n∧Jw E s v L∧∀L',Jw E s v L'→L≤L'
 |none=>∀L',¬Jw E s v L':=by
 cases ho:o v with
 |some l=>obtain⟨L,e⟩:=l;exact⟨(h.acw v L e hv ho).1,h.mV v L e hv ho⟩
 |none=>
  intro L' hL
  obtain⟨x,hx,_⟩:=h.least (fun y hy=>⟨(hE y hy).1,(hE y hy).2.1⟩) ho hL
  cases hx
set_option maxRecDepth 100000
set_option linter.unusedVariables false
set_option linter.unusedSimpArgs false
def Nd.pv(x:Nd):PV:=.agg [.int .i64 x.n,.int .i64 x.len,.int .i64 x.e,.int .i64 x.num]
abbrev ot(a:List Nd):List PV:=a.map Nd.pv
theorem nd0(x:Nd):cell x.pv 0=.int .i64 x.n:=rfl
theorem nd1(x:Nd):cell x.pv 1=.int .i64 x.len:=rfl
theorem nd2(x:Nd):cell x.pv 2=.int .i64 x.e:=rfl
theorem nd3(x:Nd):cell x.pv 3=.int .i64 x.num:=rfl
theorem ndE(x:Nd):PV.agg [cell x.pv 0,cell x.pv 1,cell x.pv 2,cell x.pv 3]=x.pv:=rfl
theorem eX{a:List Nd}{i:Nat}(h:i<a.length):(ot a)[i]?=some (dQ a i).pv:=by rw[IN,Ju h];rfl
theorem aeK(a b c:PV):cell (.agg [a,b,c]) 0=a:=rfl
theorem acy(a b c:PV):cell (.agg [a,b,c]) 1=b:=rfl
theorem aeL(a b c:PV):cell (.agg [a,b,c]) 2=c:=rfl
theorem ag3(a b c:PV):asAgg 3 (.agg [a,b,c])=some ():=rfl
theorem Z2(a b:Nd):jB [.agg [cell a.pv 0,cell a.pv 1,cell a.pv 2],.agg [cell b.pv 0,cell b.pv 1,cell b.pv 2]]=some (.bool (decide (a.len<b.len∨(a.len=b.len∧a.e<b.e)))):=by
 simp only[jB,tW,ag3,aeK,acy,aeL,nd0,nd1,nd2,IS,aa,asInt];by_cases h1:a.len<b.len
 ·simp[h1]
 ·by_cases h2:a.len=b.len
  ·simp[h2]
  grind
theorem uN(a:List Nd)(pu:Nat)(i k:Nat)(hi:i<a.length)(hk:k<a.length):aK [.rp [.fn 262 [],.rs 4 (ot a),.int .i64 pu],.int .i64 i,.int .i64 k]=some (.bool (GR (dQ a i) (dQ a k))):=by
 have e0:aw 4 (PV.rs 4 (ot a))=some (ot a):=by rfl
 simp only[aK,dW,acy,aeL,e0,aa,asInt,IS,aN,eX hi,eX hk,Z2,asBool,nd3];grind [dQ,GR]
theorem half(i:Nat)(h:0<i)(hi:i<4611686018427387904):IntKind.i64.wrap ((IntKind.i64.wrap ((i:Int)-1)).tdiv 2)=(((i-1)/2:Nat):Int):=by
 have e1:IntKind.i64.wrap ((i:Int)-1)=((i-1:Nat):Int):=by grind [aY]
 have e2:((i-1:Nat):Int).tdiv 2=(((i-1)/2:Nat):Int):=rfl;grind [aY]
theorem DY{i:Nat}{es:List PV}(h:i<es.length):au (i:Int) es.length:=⟨by omega,by omega⟩
theorem Jx(a:List Nd)(i k:Nat):((ot a).set i (dQ a k).pv).set k (dQ a i).pv=ot (swp a i k):=by simp[swp,List.map_set]
theorem Qh(zx:TY2→Option PV)(t1:PV)(es:List PV)(ln ix:Int)(pu:Nat)(out:List PV)(x0 x1 x2:PV):∀(f N:Nat)(a:List Nd)(i:Nat),i<f→f≤N→i<a.length→a.length<4611686018427387904→cA (mC zx) N ((i:Int),t1,es,ln,ix,(pu:Int),out,x0,x1,x2,ot a,())=zx (t1,es,ln,IntKind.i64.wrap (ix+1),out,(pu:Int),x0,x1,x2,ot (up f a i),())
 |0,_,_,_,h,_,_,_=>by omega
 |f+1,0,_,_,_,h,_,_=>by omega
 |f+1,N+1,a,i,hf,hN,hi,ha=>by
  simp only[cA];unfold mC up;by_cases h0:0<i
  ·have hp:(i-1)/2<a.length:=by omega
   have hg:decide ((i:Int)>0)=true:=by simp;omega
   simp only[hg,cond_true,half i h0 (by omega),uN a pu i ((i-1)/2) hi hp,aa,asBool];by_cases hb:GR (dQ a i) (dQ a ((i-1)/2))=true
   ·have hl1:i<(ot a).length:=by simpa using hi
    have hl2:(i-1)/2<(ot a).length:=by omega
    have hl3:(i-1)/2<((ot a).set i (dQ a ((i-1)/2)).pv).length:=by simpa using hp
    have H4:((ot a).set i (dQ a ((i-1)/2)).pv)[(i-1)/2]?=some (dQ a ((i-1)/2)).pv:=by rw[ajW];rw[No (by omega),eX hp]
    simp only[hb,IS,GW (DY hl1),GW (DY hl2),GW (DY hl3),ajk,eX hi,eX hp,aa,ndE,H4,Jx,h0,and_self];exact Qh zx t1 es ln ix pu out x0 x1 x2 f N (swp a i ((i-1)/2)) ((i-1)/2) (by omega) (by omega) (by rw[jV];omega) (by rw[jV];omega)
   simp_all
  grind
def tc(v:Nat):Lab→PV
 |none=>.agg [.int .i64 v,.int .i64 (-1),.int .i64 (-1)]
 |some (L,e)=>.agg [.int .i64 v,.int .i64 (L:Int),.int .i64 (e:Int)]
def dV(n:Nat)(o:oQ):List PV:=(List.range n).map fun v=>tc v (o v)
def Ed.pv(y:Ed):PV:=.agg [.int .i64 y.f,.int .i64 y.t,.int .i64 y.c]
theorem uO(n:Nat)(o:oQ):(dV n o).length=n:=by simp[dV]
theorem uP{n v:Nat}(o:oQ)(h:v<n):(dV n o)[v]?=some (tc v (o v)):=by simp[dV,h]
theorem SN{n v:Nat}(o:oQ)(l:Nat×Nat)(h:v<n):(dV n o).set v (tc v (some l))=dV n (yZ o v (some l)):=by
 apply ajw;intro i;rw[ajW];by_cases e:v=i
 ·subst e;rw[GW rfl,GW (by rw[uO];omega),uP _ h];simp[yZ]
 ·rw[No e];by_cases hi:i<n
  ·simp_all[uP,yZ,Ne.symm]
  simp_all[aks,uO]
theorem aeM(v:Nat)(l:Lab):∃z:Int,asInt .i64 (cell (tc v l) 2)=some z∧(decide (z<0)=l.isNone)∧decide (z≥0)=l.isSome:=by
 cases l with
 |none=>exact⟨-1,rfl,rfl,rfl⟩
 |some p=>obtain⟨L,e⟩:=p;exact⟨e,rfl,by simp,by simp⟩
theorem ed1(y:Ed):cell y.pv 1=.int .i64 y.t:=rfl
theorem ed2(y:Ed):cell y.pv 2=.int .i64 y.c:=rfl
theorem Gs(n:Int):asInt .i64 (.int .i64 n)=some n:=by rfl
theorem H5(dr:PV×List PV×Int×List PV×Unit→Option PV)(t1:PV)(n:Nat)(o:oQ)(x:Nd)(es:List Ed)(ht:∀z∈es,z.t<n)(hn:n<4294967296)(hx:x.len<4611686018427387904)(hxe:x.e<4611686018427387904)(hc:∀z∈es,z.c<4611686018427387904)(JU:es.length<4611686018427387904):∀(m N k pu:Nat)(H:List Nd),m+k=es.length→m<N→pu+m<4294967296→H.length+m<4294967296→cA (cG bn dr) N (t1,es.map Ed.pv,((es.length:Nat):Int),(k:Int),dV n o,(pu:Int),.int .i64 x.n,.int .i64 x.len,.int .i64 x.e,ot H,())=dr (t1,dV n o,((oz o x (es.drop k) pu H).1:Int),ot (oz o x (es.drop k) pu H).2,())
 |_,0,_,_,_,_,h,_,_=>by omega
 |0,N+1,k,pu,H,hk,hN,hpu,hH=>by
  simp only[cA];unfold cG;dsimp only;have hg:decide ((k:Int)<((es.length:Nat):Int))=false:=by simp;omega
  rw[hg,List.drop_eq_nil_of_le (by omega)];rfl
 |m+1,N+1,k,pu,H,hk,hN,hpu,hH=>by
  have ih:=H5 dr t1 n o x es ht hn hx hxe hc JU m N (k+1);simp only[cA];generalize cA (cG bn dr) N=rec at ih⊢;unfold cG;dsimp only;have Nk:k<es.length:=by omega
  have hg:decide ((k:Int)<((es.length:Nat):Int))=true:=by simp;omega
  obtain⟨z,hz⟩:∃z,es[k]?=some z:=⟨_,cO Nk⟩;have hzm:z∈es:=agx hz;have hzt:=ht z hzm;have GC:(es.map Ed.pv)[k]?=some z.pv:=by simp_all
  have aeN:es.drop k=z::es.drop (k+1):=by grind [List.drop_eq_getElem_cons,List.getElem?_eq_getElem,Option.some.inj]
  obtain⟨w,w1,w2,w3⟩:=aeM z.t (o z.t);have pR:au (z.t:Int) (dV n o).length:=DY (by rw[uO];omega);rw[aeN,oz];simp only[hg,IS,aN,GC,aa,ed1,ed2,Gs,GW pR,ajk,uP o hzt,w1,w2];by_cases DS:(o z.t).isNone=true
  ·have e1:IntKind.i64.wrap ((x.len:Int)+(z.c:Int))=((x.len+z.c:Nat):Int):=by grind [aY]
   have e2:ot H++[PV.agg [.int .i64 z.t,.int .i64 ((x.len+z.c:Nat):Int),.int .i64 ((x.e+1:Nat):Int),.int .i64 pu]]=ot (H++[⟨z.t,x.len+z.c,x.e+1,pu⟩]):=by simp[ot,Nd.pv]
   have e3:(ot (H++[⟨z.t,x.len+z.c,x.e+1,pu⟩])).length=H.length+1:=by simp
   have e4:IntKind.i64.wrap (((H.length+1:Nat):Int)-1)=(H.length:Int):=by grind [aY]
   have fg:(H.length+1)*32≤ah∧0<32:=by unfold ah;omega
   simp only[DS,IS,e1,al (show x.e<9223372036854775807 by omega),e2,e3,e4,GW fg,al (show pu<9223372036854775807 by omega),nd];refine(Qh rec t1 (es.map Ed.pv) ((es.length:Nat):Int) (k:Int) (pu+1) (dV n o) _ _ _ (H.length+1) rounds (H++[⟨z.t,x.len+z.c,x.e+1,pu⟩]) H.length (by omega) (by unfold rounds;omega) (by simp) (by simp;omega)).trans ?_;rw[al (by omega)];rw[show up (H.length+1) (H++[⟨z.t,x.len+z.c,x.e+1,pu⟩]) H.length=push H ⟨z.t,x.len+z.c,x.e+1,pu⟩from rfl];refine ih (pu+1) _ (by omega) (by omega) (by omega) ?_;have:(push H ⟨z.t,x.len+z.c,x.e+1,pu⟩).length=H.length+1:=by
    unfold push;have key:∀(f:Nat)(a:List Nd)(i:Nat),(up f a i).length=a.length:=by
     intro f;induction f with
     |zero=>intro a i;rfl
     |succ f ih=>
      intro a i;unfold up;split
      ·rw[ih,jV]
      rfl
    rw[key];simp
   omega
  ·simp only[DS,cQ,S3,al (show k<9223372036854775807 by omega)];grind
structure Gr(E:List Ed)(n:Nat)(ks vs:List PV):Prop where
 small:n<4294967296
 len:E.length<1073741824
 node:∀y∈E,y.f<n∧y.t<n∧y.c≤1073741824
 look:∀v:Nat,v<n→aw 3 (b9 (.int .i64 v) (.rs 0 []) (ks.zip vs))=some ((E.filter fun y=>y.f==v).map Ed.pv)
section
variable {E:List Ed} {n:Nat} {ks vs:List PV}
def labelled(o:oQ)(x:Nd):oQ:=yZ o x.n (some (x.len,x.e))
def KR(dr:PV×List PV×Int×List PV×Unit→Option PV)(E:List Ed)(n:Nat)(ks vs:List PV)(o:oQ)(x:Nd)(pu:Nat)(H:List Nd):Option PV:=
 if(o x.n).isSome=true then dr (.rm 3 ks vs,dV n o,(pu:Int),ot H,())
 else dr (.rm 3 ks vs,dV n (labelled o x),((oz (labelled o x) x (E.filter fun y=>y.f==x.n) pu H).1:Int),ot (oz (labelled o x) x (E.filter fun y=>y.f==x.n) pu H).2,())
structure Sm(n:Nat)(E:List Ed)(x:Nd)(pu:Nat)(H:List Nd):Prop where
 node:x.n<n
 len:x.len<4611686018427387904
 e:x.e<4611686018427387904
 pu:pu≤1073741824
 H:H.length≤1073741824
theorem yS(hG:Gr E n ks vs)(dr:PV×List PV×Int×List PV×Unit→Option PV)(o:oQ)(x:Nd)(pu:Nat)(H:List Nd)(hS:Sm n E x pu H)(A:Int→PV→Int→Option PV):((asInt .i64 (.int .i64 x.n)).bind fun n23=>if au n23 (dV n o).length then(dV n o)[n23.toNat]?.bind fun e24=>(asInt .i64 (cell e24 2)).bind fun n25=>if decide (n25≥0)=true then dr (.rm 3 ks vs,dV n o,(pu:Int),ot H,())else(asInt .i64 (.int .i64 x.n)).bind fun n26=>if au n26 (dV n o).length then(dV n o)[n26.toNat]?.bind fun e27=>(asInt .i64 (.int .i64 x.n)).bind fun n28=>cD 3 (.rm 3 ks vs) (A n26 e27 n28) fun ah1 ah2=>(aw 3 (b9 (.int .i64 n28) (.rs 0 []) (ah1.zip ah2))).bind fun aeO=>bn.run (cG bn dr) (.rm 3 ks vs,aeO,(aeO.length:Int),0,(dV n o).set n26.toNat (.agg [.int .i64 x.n,.int .i64 x.len,.int .i64 x.e]),(pu:Int),.int .i64 x.n,.int .i64 x.len,.int .i64 x.e,ot H,())else none else none)=KR dr E n ks vs o x pu H:=by
 have pR:au (x.n:Int) (dV n o).length:=DY (by rw[uO];exact hS.node)
 obtain⟨w,w1,w2,w3⟩:=aeM x.n (o x.n)
 simp only[Gs,aa,GW pR,ajk,uP o hS.node,w1,w3,cD,IS,hG.look x.n hS.node,nd]
 unfold KR
 by_cases hs:(o x.n).isSome=true
 ·simp only[hs,IS]
 ·simp only[hs,cQ,S3];have e1:(dV n o).set x.n (.agg [.int .i64 x.n,.int .i64 x.len,.int .i64 x.e])=dV n (labelled o x):=SN o (x.len,x.e) hS.node;rw[e1];have hl:(E.filter fun y=>y.f==x.n).length≤E.length:=akW ..;have bX:∀z∈E.filter (fun y=>y.f==x.n),z∈E:=fun z hz=>(alW.1 hz).1;have h1:=hG.len;have h2:=hS.pu;have h3:=hS.H;have:=H5 dr (.rm 3 ks vs) n (labelled o x) x (E.filter fun y=>y.f==x.n) (fun z hz=>(hG.node z (bX z hz)).2.1) hG.small hS.len hS.e (fun z hz=>by have:=(hG.node z (bX z hz)).2.2;omega) (by omega) (E.filter fun y=>y.f==x.n).length rounds 0 pu H (by omega) (by unfold rounds;omega) (by omega) (by omega);simp_all
theorem Wa{a:List Nd}{i:Nat}(h:2*i+1+1<a.length∧GR (dQ a (2*i+1+1)) (dQ a (2*i+1))=true):H3 a i=2*i+1+1:=GW h
theorem SO{a:List Nd}{i:Nat}(h:¬(2*i+1+1<a.length∧GR (dQ a (2*i+1+1)) (dQ a (2*i+1))=true)):H3 a i=2*i+1:=No h
theorem H6(hG:Gr E n ks vs)(dr:PV×List PV×Int×List PV×Unit→Option PV)(o:oQ)(x:Nd)(pu:Nat)(z1 z2 z3:Int):∀(f N:Nat)(a:List Nd)(i:Nat),a.length≤f+i→f<N→i<4294967296→Sm n E x pu a→cA (dR bn dr) N ((i:Int),.rm 3 ks vs,(pu:Int),z1,z2,z3,.int .i64 x.n,.int .i64 x.len,.int .i64 x.e,dV n o,ot a,())=KR dr E n ks vs o x pu (down f a i)
 |_,0,_,_,_,h,_,_=>by omega
 |0,N+1,a,i,hf,hN,hi,hS=>by
  simp only[cA];generalize cA (dR bn dr) N=rec;unfold dR down;dsimp only;have e1:IntKind.i64.wrap (IntKind.i64.wrap (2*(i:Int))+1)=((2*i+1:Nat):Int):=by grind [aY]
  have hg:decide (((2*i+1:Nat):Int)≥((ot a).length:Int))=true:=by simp;omega
  rw[e1,GW hg];exact yS hG dr o x pu a hS _
 |f+1,N+1,a,i,hf,hN,hi,hS=>by
  have ih:=H6 hG dr o x pu z1 z2 z3 f N;simp only[cA];generalize cA (dR bn dr) N=rec at ih⊢;have e1:IntKind.i64.wrap (IntKind.i64.wrap (2*(i:Int))+1)=((2*i+1:Nat):Int):=by grind [aY]
  have e2:IntKind.i64.wrap (((2*i+1:Nat):Int)+1)=((2*i+1+1:Nat):Int):=al (by omega);unfold dR down;dsimp only;rw[e1,e2];by_cases hl:a.length≤2*i+1
  ·have hg:decide (((2*i+1:Nat):Int)≥((ot a).length:Int))=true:=by simp;omega
   rw[GW hg,GW hl];exact yS hG dr o x pu a hS _
  ·have hg:¬decide (((2*i+1:Nat):Int)≥((ot a).length:Int))=true:=by simp;omega
   rw[No hg,No hl];have hlen:=hS.H;have qH:i<a.length:=by omega
   have hi1:i<(ot a).length:=by simpa using qH
   obtain⟨k1,k2,_⟩:=V6 hl;have Ry:H3 a i<(ot a).length:=by simpa using k1
   have hk3:H3 a i<((ot a).set i (dQ a (H3 a i)).pv).length:=by simpa using k1
   have H4:((ot a).set i (dQ a (H3 a i)).pv)[H3 a i]?=some (dQ a (H3 a i)).pv:=by rw[ajW,No (by omega),eX k1]
   have fin:=ih (swp a i (H3 a i)) (H3 a i) (by rw[jV];omega) (by omega) (by omega) ⟨hS.node,hS.len,hS.e,hS.pu,by rw[jV];omega⟩;by_cases hc:2*i+1+1<a.length∧GR (dQ a (2*i+1+1)) (dQ a (2*i+1))=true
   ·have hk:=Wa hc;have hd:decide (((2*i+1+1:Nat):Int)<((ot a).length:Int))=true:=by simp;omega
    rw[hd];rw[hk]at Ry hk3 H4 fin k1⊢;simp only[cond_true,uN a pu (2*i+1+1) (2*i+1) (by omega) (by omega),hc.2,aa,asBool,IS,uN a pu (2*i+1+1) i k1 qH];by_cases hb:GR (dQ a (2*i+1+1)) (dQ a i)=true
    ·rw[GW hb]at*;simp only[hb,aji,cQ,S3,GW (DY hi1),GW (DY Ry),GW (DY hk3),ajk,eX qH,eX k1,aa,ndE,H4,Jx];omega
    ·rw[No hb];have jG:(!GR (dQ a (2*i+1+1)) (dQ a i))=true:=by simpa using hb
     rw[GW jG];exact yS hG dr o x pu a hS _
   ·have hk:=SO hc;have hd:(bif decide (((2*i+1+1:Nat):Int)<((ot a).length:Int))then(aK [.rp [.fn 262 [],.rs 4 (ot a),.int .i64 (pu:Int)],.int .i64 ((2*i+1+1:Nat):Int),.int .i64 ((2*i+1:Nat):Int)]).bind fun r53=>(asBool r53).bind fun b54=>some b54 else some false)=some false:=by
     by_cases h2:2*i+1+1<a.length
     ·have hd:decide (((2*i+1+1:Nat):Int)<((ot a).length:Int))=true:=by simp;omega
      have hb:GR (dQ a (2*i+1+1)) (dQ a (2*i+1))=false:=by simp_all
      rw[hd,cond_true,uN a pu (2*i+1+1) (2*i+1) h2 (by omega),aa,hb];rfl
     grind
    rw[hd];rw[hk]at Ry hk3 H4 fin k1⊢;simp only[aa,asBool,cQ,S3,uN a pu (2*i+1) i k1 qH];by_cases hb:GR (dQ a (2*i+1)) (dQ a i)=true
    ·rw[GW hb]at*;simp only[hb,aji,cQ,S3,GW (DY hi1),GW (DY Ry),GW (DY hk3),ajk,eX qH,eX k1,aa,ndE,H4,Jx];omega
    ·rw[No hb];have jG:(!GR (dQ a (2*i+1)) (dQ a i))=true:=by simpa using hb
     rw[GW jG];exact yS hG dr o x pu a hS _
end
section
variable {E:List Ed} {n:Nat} {ks vs:List PV}
theorem SP(hG:Gr E n ks vs)(dr:PV×List PV×Int×List PV×Unit→Option PV)(o:oQ)(pu:Nat)(H:List Nd)(hS:∀x∈H,Sm n E x pu H):fj bn (.rm 3 ks vs,dV n o,(pu:Int),ot H,()) dr=if H.length=0 then some (.rs 3 (dV n o))else KR dr E n ks vs o (dQ H 0) pu (rest H):=by
 unfold fj;dsimp only;by_cases h0:H.length=0
 ·simp_all
 ·have hg:¬(((ot H).length:Int)==0)=true:=by simp_all
  rw[No hg,No h0];have hx:dQ H 0∈H:=Cv.2 ⟨0,by omega,rfl⟩;have Yn:=hS _ hx;have hH:=Yn.H;have hl:((ot H).length:Int)=(H.length:Int):=by simp
  have e1:IntKind.i64.wrap ((H.length:Int)-1)=((H.length-1:Nat):Int):=by grind [aY]
  have i0:au (0:Int) (ot H).length:=DY (i:=0) (by omega);have hl1:H.length-1<(ot H).length:=by omega
  have hl3:H.length-1<((ot H).set 0 (dQ H (H.length-1)).pv).length:=by simp;omega
  have g0:(ot H)[0]?=some (dQ H 0).pv:=eX (by omega);have gl:(ot H)[H.length-1]?=some (dQ H (H.length-1)).pv:=eX (by omega);have g3:∃q,((ot H).set 0 (dQ H (H.length-1)).pv)[H.length-1]?=some q:=⟨_,cO hl3⟩;obtain⟨q,g3⟩:=g3;have z0:Int.toNat 0=0:=rfl;have lA:(0:Int)≤0∧0≤((H.length-1:Nat):Int)∧((H.length-1:Nat):Int)≤(((((ot H).set 0 (dQ H (H.length-1)).pv).set (H.length-1) (dQ H 0).pv).length:Nat):Int):=by simp
  simp only[hl,e1,GW i0,z0,g0,aa,GW (DY hl1),ajk,gl,ndE,GW (DY hl3),g3,and_true,GW lA,amf];simp only[nd0,nd1,nd2,Jx,←ak9,nd];rw[GW (by simp)];have:=H6 hG dr o (dQ H 0) pu 0 0 0 (H.length+1) rounds (Ou H) 0 (by simp[Ou];omega) (by unfold rounds;omega) (by omega) ⟨Yn.node,Yn.len,Yn.e,Yn.pu,by simp[Ou];omega⟩;exact this
theorem DI.small{s B:Nat}{o:oQ}{pu:Nat}{H:List Nd}(h:DI E n s B o pu H)(hG:Gr E n ks vs)(hB:B≤1073741824)(hn:n≤64):∀x∈H,Sm n E x pu H:=fun x hx=>by have h1:=h.V7 x hx;have h2:=Qg n o;have h3:B*GS n o≤1073741824*64:=alg hB (by omega);have h4:=h.ZQ;have h5:=h.acx;have h6:=hG.len;exact⟨h.node x hx,by omega,by omega,by omega,by omega⟩
theorem SQ(hG:Gr E n ks vs){s B:Nat}(hs:s<n)(hB:B≤1073741824)(hEB:∀y∈E,y.c≤B)(hn:n≤64):∃o pu,DI E n s B o pu []∧bn.run (fj bn) (.rm 3 ks vs,dV n (fun _=>none),1,[PV.agg [.int .i64 s,.int .i64 0,.int .i64 0,.int .i64 0]],())=some (.rs 3 (dV n o)):=by
 have hE:∀y∈E,y.f<n∧y.t<n∧y.c≤B:=fun y hy=>⟨(hG.node y hy).1,(hG.node y hy).2.1,hEB y hy⟩;have hlen:=hG.len;obtain⟨a,r,hI,⟨h0,hr⟩,uk⟩:=SM (body:=fj bn) (A:=oQ×Nat×List Nd) (fun a=>(PV.rm 3 ks vs,dV n a.1,(a.2.1:Int),ot a.2.2,())) (fun a=>DI E n s B a.1 a.2.1 a.2.2) (fun a=>a.2.2.length+xL E a.1) (fun a r=>a.2.2=[]∧r=some (.rs 3 (dV n a.1))) (fun a hI dr=>by
  obtain⟨o,pu,H⟩:=a;have hI:DI E n s B o pu H:=hI;dsimp only;rw[SP hG dr o pu H (hI.small hG hB hn)];by_cases hH:H.length=0
  ·simp_all
  ·left;rw[No hH];have cJ:0<H.length:=by omega
   unfold KR;by_cases sL:(o (dQ H 0).n).isSome=true
   ·rw[GW sL];refine⟨(o,pu,rest H),hI.skip cJ sL,?_,rfl⟩;have:=(Jv hI.hp cJ).2.1;grind
   ·rw[No sL];have DS:o (dQ H 0).n=none:=by simpa using sL
    obtain⟨s1,s2⟩:=hI.settle hE cJ DS;exact⟨(_,_,_),s1,s2,rfl⟩) rounds ((fun _=>none),1,[⟨s,0,0,0⟩]) (DI.start hs) (by
  grind [xL,List.countP_le_length,List.length_cons,List.length_nil,rounds])
 obtain⟨o,pu,H⟩:=a;dsimp only at h0 hr hI;subst h0;refine⟨o,pu,hI,?_⟩;rw[nd,←hr,←uk];rfl
theorem SR(hG:Gr E n ks vs){s B:Nat}(hs:s<n)(hB:B≤1073741824)(hEB:∀y∈E,y.c≤B)(hn:n≤64):∃o pu,DI E n s B o pu []∧gy [.int .i64 n,.rm 3 ks vs,.int .i64 s]=some (.rs 3 (dV n o)):=by
 obtain⟨o,pu,hI,h⟩:=SQ hG hs hB hEB hn;refine⟨o,pu,hI,?_⟩;have fg:(0:Int)≤(n:Int)∧(n:Int)≤(n:Int)∧n*24≤ah∧0<24∧0<3:=by grind [ah]
 simp only[gy,qe,Gs,aa,cD,IS,GW fg,ajk,aj1];have fill:∀k,k≤n→((List.range n).map fun v=>if v<k then tc v none else PV.agg [.int .i64 0,.int .i64 0,.int .i64 0]).length=n:=fun k _=>by simp
 refine aZ (fun k=>(PV.rm 3 ks vs,(s:Int),(n:Int),(k:Int),(List.range n).map (fun v=>if v<k then tc v none else PV.agg [.int .i64 0,.int .i64 0,.int .i64 0]),())) n (fun k hk rec=>?_) (fun rec=>?_) (by unfold rounds;omega) ?_
 ·unfold gU;dsimp only;have hg:decide ((k:Int)<(n:Int))=true:=by simp;omega
  have pR:au (k:Int) ((List.range n).map fun v=>if v<k then tc v none else PV.agg [.int .i64 0,.int .i64 0,.int .i64 0]).length:=DY (by simp_all);have eX:((List.range n).map fun v=>if v<k then tc v none else PV.agg [.int .i64 0,.int .i64 0,.int .i64 0])[k]?=some (PV.agg [.int .i64 0,.int .i64 0,.int .i64 0]):=by simp[hk]
  have sL:((List.range n).map fun v=>if v<k then tc v none else PV.agg [.int .i64 0,.int .i64 0,.int .i64 0]).set k (.agg [.int .i64 k,.int .i64 (-1),.int .i64 (-1)])=(List.range n).map fun v=>if v<k+1 then tc v none else PV.agg [.int .i64 0,.int .i64 0,.int .i64 0]:=by
   apply ajw;intro i;rw[ajW];by_cases e:k=i
   ·subst e;simp[hk,tc]
   ·rw[No e];by_cases hi:i<n
    ·simp only[IN,akA hi,ajg];grind
    simp_all
  rw[GW hg,GW pR,ajk,eX,aa,sL,al (by omega)]
 ·unfold gU;dsimp only;have hg:¬decide ((n:Int)<(n:Int))=true:=by simp
  have e0:IntKind.i64.wrap ((1:Nat)-1:Int)=0:=by rfl
  have e1:IntKind.i64.wrap (0+1)=1:=by rfl
  have Nl:((List.range n).map fun v=>if v<n then tc v none else PV.agg [.int .i64 0,.int .i64 0,.int .i64 0])=dV n (fun _=>none):=by simp_all[dV,ajJ,GW]
  rw[No hg,Nl,e1];refine Eq.trans ?_ h;rfl
 ·congr 1;have:((List.range n).map fun v=>if v<0 then tc v none else PV.agg [.int .i64 0,.int .i64 0,.int .i64 0])=List.replicate n (PV.agg [.int .i64 0,.int .i64 0,.int .i64 0]):=by apply ajw;grind
  rw[this];rfl
end
theorem Z3{S R:Type}{body:S→(S→Option R)→Option R}{s:S}{r:Option R}(h:∀rec,body s rec=r):bn.run body s=r:=aZ (fun _=>s) 0 (fun k hk=>by omega) h (by decide) rfl
def td(n k:Nat)(F:Nat→PV)(z:PV):List PV:=(List.range n).map fun v=>if v<k then F v else z
theorem LR(n k:Nat)(F:Nat→PV)(z:PV):(td n k F z).length=n:=by simp[td]
theorem LS{n k:Nat}{F:Nat→PV}{z:PV}(hk:k<n):(td n k F z)[k]?=some z:=by simp[td,hk]
theorem LU{n k:Nat}{F:Nat→PV}{z:PV}(hk:k<n):(td n k F z).set k (F k)=td n (k+1) F z:=by
 apply ajw;intro i;rw[ajW];by_cases e:k=i
 ·subst e;simp[td,hk]
 ·rw[No e];unfold td;grind
theorem H7(n:Nat)(F:Nat→PV)(z:PV):td n 0 F z=List.replicate n z:=by unfold td;apply ajw;grind
theorem LV(n:Nat)(F:Nat→PV)(z:PV):td n n F z=(List.range n).map F:=by simp_all[td,ajJ,GW]
def Jy:Lab→Int
 |none=> -1
 |some (L,_)=>L
theorem ah3(v:Nat)(l:Lab):asInt .i64 (cell (tc v l) 1)=some (Jy l):=by
 cases l with
 |none=>rfl
 |some p=>rfl
theorem Ov(n:Nat)(hn:n≤64)(o:oQ):jn [.rs 3 (dV n o)]=some (.rs 1 ((List.range n).map fun v=>.int .i64 (Jy (o v)))):=by
 have e0:aw 3 (.rs 3 (dV n o))=some (dV n o):=by rfl
 have fg:(0:Int)≤((n:Nat):Int)∧((n:Nat):Int)≤((n:Nat):Int)∧n*8≤ah∧0<8∧0<1:=by grind [ah]
 simp only[jn,oR,e0,aa,uO,ajk,GW fg];refine aZ (fun k=>(dV n o,(n:Int),(k:Int),td n k (fun v=>.int .i64 (Jy (o v))) (.int .i64 0),())) n (fun k hk rec=>?_) (fun rec=>?_) (by unfold rounds;omega) ?_
 ·unfold lJ;dsimp only;have hg:decide ((k:Int)<(n:Int))=true:=by simp;omega
  rw[GW hg,aN,uP o hk,aa,ah3,aa,GW (DY (by rw[LR];omega)),ajk,LS hk,aa,al (by omega)];simp_all[LU,Jy]
 ·simp[lJ,No,LV]
 ·rw[H7];rfl
theorem FI(i n:Nat)(h:i<n):du [.int .i64 i,.rp [.int .i64 n]]=some (.bool false):=by
 have h1:decide ((i:Int)<0)=false:=by simp
 have h2:decide ((i:Int)≥(n:Int))=false:=by simp;omega
 simp only[du,oH,Gs,aa,h1,cond_false,h2]
theorem ed0(y:Ed):cell y.pv 0=.int .i64 y.f:=rfl
theorem Wb(E:List Ed)(n:Nat)(hn:n≤64)(hE:E.length≤4096)(h:∀y∈E,y.f<n∧y.t<n∧y.c≤1073741824):k8 [.int .i64 n,.rs 3 (E.map Ed.pv),.rs 0 []]=some (.int .i64 0):=by
 have e0:aw 3 (.rs 3 (E.map Ed.pv))=some (E.map Ed.pv):=by rfl
 have e1:aw 1 (.rs 0 [])=some []:=by rfl
 have h1:decide ((n:Int)<0)=false:=by simp
 have h2:decide ((n:Int)>64)=false:=by simp;omega
 have h3:¬decide (((E.map Ed.pv).length:Int)>4096)=true:=by simp;omega
 simp only[k8,sq,Gs,e0,e1,aa,h1,h2,cond_false,cQ,S3,No h3];refine aZ (fun k=>(([]:List PV),E.map Ed.pv,((E.map Ed.pv).length:Int),(k:Int),(n:Int),())) E.length (fun k hk rec=>?_) (fun rec=>?_) (by unfold rounds;omega) rfl
 ·unfold nV;dsimp only;have hg:decide ((k:Int)<((E.map Ed.pv).length:Int))=true:=by simp;omega
  obtain⟨z,hz⟩:∃z,E[k]?=some z:=⟨_,cO hk⟩;have GC:(E.map Ed.pv)[k]?=some z.pv:=by simp_all
  obtain⟨a1,a2,a3⟩:=h z (agx hz);have h4:decide ((z.c:Int)<0)=false:=by simp
  have h5:decide ((z.c:Int)>1073741824)=false:=by simp;omega
  simp only[hg,IS,aN,GC,aa,ed0,ed1,ed2,Gs,FI _ _ a1,FI _ _ a2,asBool,cond_false,cQ,S3,h4,h5,al (show k<9223372036854775807 by omega)]
 simp[nV,No,Z3,te]
abbrev Jz:=List (Nat×List Ed)
def LW(z:Ed):Jz→Jz
 |[]=>[(z.f,[z])]
 |(a,l)::r=>if z.f=a then(a,l++[z])::r else(a,l)::LW z r
def sr(v:Nat):Jz→List Ed
 |[]=>[]
 |(a,l)::r=>if v=a then l else sr v r
def LX(m:Jz):List (PV×PV):=m.map fun x=>(.int .i64 x.1,.qE 3 (x.2.map Ed.pv))
theorem Wc(a b:Nat):cz (PV.int .i64 a).cells (PV.int .i64 b).cells=decide (a=b):=by
 have:((a:Int)==(b:Int))=decide (a=b):=by grind
 simp_all[PV.cells,cz,peq,akw]
theorem aeP(v:Nat):∀m:Jz,J6 3 (.int .i64 v) (LX m)=some ((sr v m).map Ed.pv)
 |[]=>rfl
 |(a,l)::r=>by
  have ih:=aeP v r;unfold LX at ih⊢;simp only[ajr,J6,sr,Wc];by_cases h:v=a
  ·simp[h,fb]
  simp_all
theorem Qi(z:Ed):∀m:Jz,df (.int .i64 z.f) (.qE 3 ((sr z.f m).map Ed.pv++[z.pv])) (uh (.int .i64 z.f) (LX m))=LX (LW z m)
 |[]=>by rfl
 |(a,l)::r=>by
  have ih:=Qi z r;unfold LX at ih⊢;simp only[ajr,uh,LW,sr,Wc];by_cases h:z.f=a
  ·subst h;simp[df,Wc]
  simp_all[ajz,cQ,S3,df,Wc,ajr]
theorem H8(v:Nat)(z:Ed):∀m:Jz,sr v (LW z m)=sr v m++(if z.f=v then[z]else[])
 |[]=>by simp only[LW,sr];grind
 |(a,l)::r=>by
  simp only[LW];by_cases h:z.f=a
  ·subst h;simp only[IS,sr];grind
  ·rw[No h];simp only[sr];by_cases hv:v=a
   ·simp_all
   simp_all[No,H8]
def Aj(E:List Ed):Jz:=E.foldl (fun m z=>LW z m) []
theorem H9(E:List Ed)(z:Ed):Aj (E++[z])=LW z (Aj E):=by simp[Aj]
theorem Ia(v:Nat)(E:List Ed):sr v (Aj E)=E.filter fun y=>y.f==v:=by
 rw[←aln E];induction E.reverse with
 |nil=>rfl
 |cons z l ih=>grind [List.reverse_cons,H9,H8]
theorem aeQ(v:Nat):∀m:Jz,aw 3 (b9 (.int .i64 v) (.rs 0 []) (((LX m).map fun x=>x.1).zip ((LX m).map fun x=>x.2.oA)))=some ((sr v m).map Ed.pv)
 |[]=>by rfl
 |(a,l)::r=>by
  have ih:=aeQ v r;unfold LX at ih⊢;simp only[ajr,alA,b9,Wc,sr];by_cases h:v=a
  ·simp[h,PV.oA,aw]
  simp_all
theorem JA(E:List Ed)(hE:E.length≤4096):gz [.rs 3 (E.map Ed.pv),.bool false]=some (.rm 3 ((LX (Aj E)).map fun x=>x.1) ((LX (Aj E)).map fun x=>x.2.oA)):=by
 have e0:aw 3 (.rs 3 (E.map Ed.pv))=some (E.map Ed.pv):=by rfl
 simp only[gz,mD,e0,aa,asBool];refine aZ (fun k=>(false,E.map Ed.pv,((E.map Ed.pv).length:Int),(k:Int),LX (Aj (E.take k)),())) E.length (fun k hk rec=>?_) (fun rec=>?_) (by unfold rounds;omega) (by rfl)
 ·unfold jK;dsimp only;have hg:decide ((k:Int)<((E.map Ed.pv).length:Int))=true:=by simp;omega
  obtain⟨z,hz⟩:∃z,E[k]?=some z:=⟨_,cO hk⟩;have GC:(E.map Ed.pv)[k]?=some z.pv:=by simp_all
  have ZA:E.take (k+1)=E.take k++[z]:=by rw[alL,hz];rfl
  have hce:PV.agg [cell z.pv 0,cell z.pv 1,cell z.pv 2]=z.pv:=rfl;have hlen:((sr z.f (Aj (E.take k))).map Ed.pv++[z.pv]).length*24≤ah∧0<24:=by
   have:(sr z.f (Aj (E.take k))).length≤E.length:=by grind [Ia,Nat.le_trans,List.length_filter_le,List.length_take]
   grind [List.length_append,List.length_map,List.length_cons,List.length_nil,ah]
  rw[GW hg,aN,GC,aa,No (by simp)];have ah4:PV.agg [.int .i64 z.f,cell z.pv 1,cell z.pv 2]=z.pv:=rfl;simp only[ed0,Gs,aa,aeP,ah4,GW hlen];grind [Qi,H9,al]
 simp[jK,No,ajZ]
theorem Wd(E:List Ed)(n:Nat)(hn:n≤64)(hE:E.length≤4096)(h:∀y∈E,y.f<n∧y.t<n∧y.c≤1073741824):Gr E n ((LX (Aj E)).map fun x=>x.1) ((LX (Aj E)).map fun x=>x.2.oA):=⟨by omega,by omega,h,fun v _=>by rw[aeQ,Ia]⟩
end Go.Ab.Nw
