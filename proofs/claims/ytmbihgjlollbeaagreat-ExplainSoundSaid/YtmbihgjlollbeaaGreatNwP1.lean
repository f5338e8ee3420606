import Derived.Test.YtmbihgjlollbeaaGreatAbLib
import Derived.Test.YtmbihgjlollbeaaGreatSh6
namespace Go.Ab.Nw
section
variable (w:Nat→Nat→Nat→Prop)
def D2:Nat→Nat→Nat→Nat→Prop
 |0,i,j,L=>w i j L
 |k+1,i,j,L=>D2 k i j L∨∃A B,D2 k i k A∧D2 k k j B∧L=A+B
inductive lS:Nat→Nat→Nat→Prop
 |GA {i j c:Nat}:w i j c→lS i j c
 |snoc {i m j A c:Nat}:lS i m A→w m j c→lS i j (A+c)
end
section
variable {w:Nat→Nat→Nat→Prop}
variable{i j L:Nat}
theorem D2.up{k:Nat}(h:D2 w k i j L):D2 w (k+1) i j L:=.inl h
theorem D2.le{k k':Nat}(hk:k≤k')(h:D2 w k i j L):D2 w k' i j L:=by
 induction hk with
 |refl=>omega
 |step _ ih=>exact ih.up
theorem BL:∀(k:Nat){m i j A B:Nat},m<k→D2 w k i m A→D2 w k m j B→∃C,C≤A+B∧D2 w k i j C
 |0,_,_,_,_,_,h,_,_=>by omega
 |k+1,m,i,j,A,B,h,ha,hb=>by
  by_cases hm:m=k
  ·subst hm;have h1:∃A',A'≤A∧D2 w m i m A':=by
    rcases ha with ha|⟨X,Y,x,y,e⟩
    ·grind
    grind
   have h2:∃B',B'≤B∧D2 w m m j B':=by
    rcases hb with hb|⟨X,Y,x,y,e⟩
    ·grind
    grind
   obtain⟨A',a1,a2⟩:=h1;obtain⟨B',b1,b2⟩:=h2;exact⟨A'+B',by omega,.inr ⟨A',B',a2,b2,rfl⟩⟩
  ·have bZ:m<k:=by omega
   rcases ha with ha|⟨X,Y,x,y,e⟩
   ·rcases hb with hb|⟨X',Y',x',y',e'⟩
    ·obtain⟨C,c1,c2⟩:=BL k bZ ha hb;exact⟨C,c1,.inl c2⟩
    ·obtain⟨C,c1,c2⟩:=BL k bZ ha x';exact⟨C+Y',by omega,.inr ⟨C,Y',c2,y',rfl⟩⟩
   ·rcases hb with hb|⟨X',Y',x',y',e'⟩
    ·obtain⟨C,c1,c2⟩:=BL k bZ y hb;exact⟨X+C,by omega,.inr ⟨X,C,x,c2,rfl⟩⟩
    ·exact⟨X+Y',by omega,.inr ⟨X,Y',x,y',rfl⟩⟩
theorem lS.join{m A B:Nat}(h1:lS w i m A)(h2:lS w m j B):lS w i j (A+B):=by
 induction h2 with
 |GA h=>exact .snoc h1 h
 |snoc _ h ih=>rw[←akO];exact .snoc ih h
theorem D2.walk:∀{k i j L:Nat},D2 w k i j L→lS w i j L
 |0,_,_,_,h=>.GA h
 |k+1,i,j,L,.inl h=>D2.walk (k:=k) h
 |k+1,i,j,L,.inr ⟨A,B,h1,h2,e⟩=>by rw[e];exact(D2.walk (k:=k) h1).join (D2.walk (k:=k) h2)
theorem lS.via{n:Nat}(hn:∀i j c,w i j c→i<n)(h:lS w i j L):∃C,C≤L∧D2 w n i j C:=by
 induction h with
 |GA h=>exact⟨_,akk _,D2.le (al4 _) (show D2 w 0 _ _ _ from h)⟩
 |snoc _ h ih=>obtain⟨C,c1,c2⟩:=ih;obtain⟨D,d1,d2⟩:=BL n (hn _ _ _ h) c2 (D2.le (al4 _) (show D2 w 0 _ _ _ from h));grind
variable{w':Nat→Nat→Nat→Prop}
theorem lS.mono(hw:∀i j c,w i j c→w' i j c)(h:lS w i j L):lS w' i j L:=by
 induction h with
 |GA h=>exact .GA (hw _ _ _ h)
 |snoc _ h ih=>exact .snoc ih (hw _ _ _ h)
theorem lS.leq(hw:∀i j c,w i j c→∃c',c'≤c∧w' i j c')(h:lS w i j L):∃L',L'≤L∧lS w' i j L':=by
 induction h with
 |GA h=>obtain⟨c',h1,h2⟩:=hw _ _ _ h;exact⟨c',h1,.GA h2⟩
 |snoc _ h ih=>obtain⟨c',h1,h2⟩:=hw _ _ _ h;obtain⟨L',l1,l2⟩:=ih;exact⟨L'+c',by omega,.snoc l2 h2⟩
def Rg(w:Nat→Nat→Nat→Prop)(i j:Nat)(o:Option Nat):Prop:=match o with
 |some L=>lS w i j L∧∀L',lS w i j L'→L≤L'
 |none=>∀L',¬lS w i j L'
theorem Rg.unique{o o':Option Nat}(h:Rg w i j o)(h':Rg w i j o'):o=o':=by
 cases o with
 |none=>cases o' with
  |none=>rfl
  |some L=>exact absurd h'.1 (h L)
 |some L=>cases o' with
  |none=>exact absurd h.1 (h' L)
  |some L'=>rw[Nat.le_antisymm (h.2 _ h'.1) (h'.2 _ h.1)]
structure Fw(w:Nat→Nat→Nat→Prop)(inf:Nat)(n:Nat)(d:Nat→Nat→Nat):Prop where
 top:∀i j,i<n→j<n→d i j≤inf
 real:∀i j,i<n→j<n→d i j<inf→lS w i j (d i j)
def sY(w:Nat→Nat→Nat→Prop)(k i j:Nat)(x:Nat):Prop:=∀L,D2 w k i j L→x≤L
variable{d:Nat→Nat→Nat}
theorem abd{inf n k:Nat}(h:Fw w inf n d)(hi:i<n)(hj:j<n)(hk:k<n){x:Nat}(hx:x=min (d i j) (d i k+d k j)){d':Nat→Nat→Nat}(hd:∀a b,d' a b=if a=i∧b=j then x else d a b):Fw w inf n d'∧(∀a b,d' a b≤d a b)∧(sY w k i k (d i k)→sY w k k j (d k j)→sY w k i j (d i j)→sY w (k+1) i j (d' i j)):=by
 refine⟨⟨fun a b ha hb=>?_,fun a b ha hb bZ=>?_⟩,fun a b=>?_,fun h1 h2 h3 L hL=>?_⟩
 ·rw[hd];split
  ·have:=h.top i j hi hj;omega
  ·exact h.top a b ha hb
 ·rw[hd]at bZ⊢;split
  ·rename_i e;rw[AI e]at bZ;obtain⟨rfl,rfl⟩:=e;by_cases hm:d a b≤d a k+d k b
   ·rw[show x=d a b by omega]at bZ⊢;exact h.real a b ha hb bZ
   ·have e2:x=d a k+d k b:=by omega
    rw[e2]at bZ⊢;exact(h.real a k ha hk (by omega)).join (h.real k b hk hb (by omega))
  ·rename_i e;rw[IS e]at bZ;exact h.real a b ha hb bZ
 ·grind
 ·rw[hd,AI ⟨rfl,rfl⟩];rcases hL with hL|⟨A,B,a1,a2,e⟩
  ·have:=h3 _ hL;omega
  ·have:=h1 _ a1;have:=h2 _ a2;omega
theorem abe{inf n:Nat}(hn:∀i j c,w i j c→i<n)(h:Fw w inf n d)(hi:i<n)(hj:j<n)(hb:sY w n i j (d i j))(qW:∀L,(∀L',lS w i j L'→L≤L')→lS w i j L→L<inf):Rg w i j (if d i j<inf then some (d i j)else none):=by
 have low:∀L,lS w i j L→d i j≤L:=fun L hL=>by obtain⟨C,c1,c2⟩:=hL.via hn;exact akT (hb C c2) c1
 split
 ·rename_i bZ;exact⟨h.real i j hi hj bZ,low⟩
 ·rename_i G8;intro L hL;have key:∀m,(∃L,L≤m∧lS w i j L)→∃L,lS w i j L∧∀L',lS w i j L'→L≤L':=by
   intro m;induction m with
   |zero=>grind
   |succ m ih=>
    rintro⟨L,hl,hw⟩;by_cases he:∃L,L≤m∧lS w i j L
    ·exact ih he
    grind
  obtain⟨L0,h1,h2⟩:=key L ⟨L,akk _,hL⟩;grind
end
structure Nd where
 n:Nat
 len:Nat
 e:Nat
 num:Nat
 deriving DecidableEq,Inhabited
def Hh(a b:Nd):Bool:=decide (a.len<b.len∨(a.len=b.len∧(a.e<b.e∨(a.e=b.e∧a.num<b.num))))
def wa(a b:Nd):Prop:=Hh b a=false
theorem Rh(a b:Nd):Hh a b=true↔(a.len<b.len∨(a.len=b.len∧(a.e<b.e∨(a.e=b.e∧a.num<b.num)))):=by simp[Hh]
theorem BM(a b:Nd):wa a b↔¬(b.len<a.len∨(b.len=a.len∧(b.e<a.e∨(b.e=a.e∧b.num<a.num)))):=by unfold wa;rw[←Rh];simp
theorem CM(a:Nd):wa a a:=by rw[BM];omega
theorem wb{a b c:Nd}(h:wa a b)(k:wa b c):wa a c:=by rw[BM]at*;omega
theorem yB{a b:Nd}(h:Hh a b=true):wa a b:=by grind [BM,Rh]
theorem Xe{a b:Nd}(h:wa a b):a.len≤b.len:=by rw[BM]at h;omega
def dV(a:List Nd)(i:Nat):Nd:=a.getD i default
variable{a:List Nd}{i:Nat}
theorem J4(h:i<a.length):a[i]?=some (dV a i):=by simp[dV,List.getD,h]
def swp(a:List Nd)(i k:Nat):List Nd:=(a.set i (dV a k)).set k (dV a i)
@[simp] theorem j5(a:List Nd)(i k:Nat):(swp a i k).length=a.length:=by simp[swp]
theorem adI(a:List Nd)(i j:Nat)(x:Nd)(h:i<a.length):dV (a.set i x) j=if j=i then x else dV a j:=by unfold dV List.getD;grind
theorem og(a:List Nd)(i k j:Nat)(hi:i<a.length)(hk:k<a.length):dV (swp a i k) j=if j=k then dV a i else if j=i then dV a k else dV a j:=by simp_all[swp,adI]
theorem CN{x:Nd}:x∈a↔∃i,i<a.length∧dV a i=x:=by
 rw[akC];constructor
 ·grind [J4]
 ·rintro⟨i,hi,h⟩;exact⟨i,by rw[J4 hi,h]⟩
theorem Eo{k:Nat}(hi:i<a.length)(hk:k<a.length)(x:Nd):x∈swp a i k↔x∈a:=by
 rw[CN,CN];constructor
 ·rintro⟨j,hj,h⟩;rw[og _ _ _ _ hi hk]at h;split at h
  ·exact⟨i,hi,h⟩
  ·split at h
   ·exact⟨k,hk,h⟩
   ·exact⟨j,by simpa using hj,h⟩
 ·rintro⟨j,hj,h⟩;by_cases e1:j=i
  ·subst e1;refine⟨k,by simpa using hk,?_⟩;rw[og _ _ _ _ hi hk,AI rfl,h]
  ·by_cases e2:j=k
   ·subst e2;refine⟨i,by simpa using hi,?_⟩;rw[og _ _ _ _ hi hk];simp_all
   ·exact⟨j,by simpa using hj,by simp_all[og,IS]⟩
def Hp(a:List Nd):Prop:=∀j,0<j→j<a.length→wa (dV a ((j-1)/2)) (dV a j)
theorem Hp.min(h:Hp a):∀j,j<a.length→wa (dV a 0) (dV a j):=by
 intro j;induction j using Nat.strongRecOn with
 |ind j ih=>
  intro hj;by_cases h0:j=0
  ·subst h0;exact CM _
  ·exact wb (ih ((j-1)/2) (by omega) (by omega)) (h j (by omega) hj)
def UpI(a:List Nd)(i:Nat):Prop:=(∀j,0<j→j<a.length→j≠i→wa (dV a ((j-1)/2)) (dV a j))∧∀c,0<c→c<a.length→(c-1)/2=i→0<i→wa (dV a ((i-1)/2)) (dV a c)
theorem UpI.done(h:UpI a i)(hi:i<a.length)(hs:i=0∨Hh (dV a i) (dV a ((i-1)/2))=false):Hp a:=by
 intro j h0 hj;by_cases e:j=i
 ·subst e;rcases hs with hs|hs
  ·omega
  ·exact hs
 ·exact h.1 j h0 hj e
theorem UpI.step(h:UpI a i)(h0:0<i)(hi:i<a.length)(hb:Hh (dV a i) (dV a ((i-1)/2))=true):UpI (swp a i ((i-1)/2)) ((i-1)/2):=by
 have hp:(i-1)/2<a.length:=by omega
 have hpi:(i-1)/2<i:=by omega
 obtain⟨p,Jn⟩:∃p,p=(i-1)/2:=⟨_,rfl⟩;rw[←Jn]at hp hpi hb⊢;have hle:=yB hb;refine⟨fun j j0 hj cK=>?_,fun c c0 hc hcp Kt=>?_⟩
 ·rw[j5]at hj;rw[og _ _ _ _ hi hp,og _ _ _ _ hi hp,IS cK];by_cases e1:j=i
  ·simp_all
  ·rw[IS e1];by_cases e2:(j-1)/2=p
   ·rw[AI e2];have:=h.1 j j0 hj e1;grind [wb]
   ·rw[IS e2];by_cases e3:(j-1)/2=i
    ·rw[AI e3];have:=h.2 j j0 hj e3 h0;simp_all
    ·rw[IS e3];exact h.1 j j0 hj e1
 ·rw[j5]at hc;have hpp:(p-1)/2≠p∧(p-1)/2≠i:=by omega
  rw[og _ _ _ _ hi hp,og _ _ _ _ hi hp,IS hpp.1,IS hpp.2];have h1:=h.1 p Kt hp (by omega);by_cases e1:c=p
  ·omega
  ·rw[IS e1];by_cases e2:c=i
   ·rw[AI e2];omega
   ·rw[IS e2];have:=h.1 c c0 hc e2;grind [wb]
theorem UpI.start(h:Hp a)(x:Nd):UpI (a++[x]) a.length:=by
 have S3:∀j,j<a.length→dV (a++[x]) j=dV a j:=fun j hj=>by simp[dV,List.getD,ak1 hj]
 refine⟨fun j j0 hj cK=>?_,fun c c0 hc hcp h0=>?_⟩
 ·have:j<a.length:=by simp at hj;omega
  rw[S3 _ (by omega),S3 _ this];exact h j j0 this
 ·simp at hc;omega
def DnI(a:List Nd)(i:Nat):Prop:=(∀j,0<j→j<a.length→(j-1)/2≠i→wa (dV a ((j-1)/2)) (dV a j))∧∀c,0<c→c<a.length→(c-1)/2=i→0<i→wa (dV a ((i-1)/2)) (dV a c)
theorem DnI.done(h:DnI a i)(hs:∀c,0<c→c<a.length→(c-1)/2=i→wa (dV a i) (dV a c)):Hp a:=by
 intro j h0 hj;by_cases e:(j-1)/2=i
 ·simp_all
 ·exact h.1 j h0 hj e
theorem DnI.step{k:Nat}(h:DnI a i)(hk:k<a.length)(hki:k=2*i+1∨k=2*i+2)(aeT:∀c,0<c→c<a.length→(c-1)/2=i→wa (dV a k) (dV a c))(hb:Hh (dV a k) (dV a i)=true):DnI (swp a i k) k:=by
 have hi:i<a.length:=by omega
 have hle:=yB hb;have hpk:(k-1)/2=i:=by omega
 refine⟨fun j j0 hj cK=>?_,fun c c0 hc hcp hk0=>?_⟩
 ·rw[j5]at hj;rw[og _ _ _ _ hi hk,og _ _ _ _ hi hk,IS cK];by_cases e1:j=k
  ·simp_all
  ·rw[IS e1];by_cases e2:(j-1)/2=i
   ·grind
   ·rw[IS e2];by_cases e3:j=i
    ·rw[AI e3];have:=h.2 k (by omega) hk hpk (by omega);rw[e3];omega
    ·rw[IS e3];exact h.1 j j0 hj e2
 ·rw[j5]at hc;rw[og _ _ _ _ hi hk,og _ _ _ _ hi hk,hpk,IS (by omega),AI rfl,IS (by omega),IS (by omega)];have:=h.1 c c0 hc (by omega);simp_all
theorem DnI.start(h:Hp a)(cK:0<a.length):DnI ((swp a 0 (a.length-1)).take (a.length-1)) 0:=by
 have hl:((swp a 0 (a.length-1)).take (a.length-1)).length=a.length-1:=by simp
 have S3:∀j,0<j→j<a.length-1→dV ((swp a 0 (a.length-1)).take (a.length-1)) j=dV a j:=fun j j0 hj=>by
  have:dV ((swp a 0 (a.length-1)).take (a.length-1)) j=dV (swp a 0 (a.length-1)) j:=by simp[dV,List.getD,alD hj]
  rw[this,og _ _ _ _ (by omega) (by omega),IS (by omega),IS (by omega)]
 refine⟨fun j j0 hj cK=>?_,fun c _ _ _ h0=>by omega⟩;rw[hl]at hj;rw[S3 j j0 hj,S3 _ (by omega) (by omega)];exact h j j0 (by omega)
theorem Ri(cK:0<a.length)(y:Nd):(y∈(swp a 0 (a.length-1)).take (a.length-1)→y∈a)∧(y∈a→y=dV a 0∨y∈(swp a 0 (a.length-1)).take (a.length-1)):=by
 refine⟨fun h=>(Eo cK (by omega) y).1 (ale h),fun h=>?_⟩;have h:=(Eo (i:=0) (k:=a.length-1) cK (by omega) y).2 h;rw[CN]at h;obtain⟨j,hj,e⟩:=h;rw[j5]at hj;by_cases hl:j=a.length-1
 ·simp_all[og,AI]
 ·right;rw[akC];refine⟨j,?_⟩;rw[alD (by omega),J4 (by simpa using hj),e]
theorem TV{S R A:Type}{body:S→(S→Option R)→Option R}(st:A→S)(I:A→Prop)(m:A→Nat)(fin:A→Option R→Prop)(h:∀a,I a→∀rec,(∃a',I a'∧m a'<m a∧body (st a) rec=rec (st a'))∨(∃r,fin a r∧body (st a) rec=r)):∀N a,I a→m a<N→∃a' r,I a'∧fin a' r∧cg body N (st a)=r:=by
 intro N;induction N with
 |zero=>omega
 |succ N ih=>
  intro a hI hm;simp only[cg];rcases h a hI (cg body N)with⟨a',h1,h2,h3⟩|⟨r,h1,h2⟩
  ·grind
  grind
def up:Nat→List Nd→Nat→List Nd
 |0,a,_=>a
 |f+1,a,i=>if 0<i∧Hh (dV a i) (dV a ((i-1)/2))=true then up f (swp a i ((i-1)/2)) ((i-1)/2)else a
def push(a:List Nd)(x:Nd):List Nd:=up (a.length+1) (a++[x]) a.length
def IA(a:List Nd)(i:Nat):Nat:=if 2*i+1+1<a.length∧Hh (dV a (2*i+1+1)) (dV a (2*i+1))=true then 2*i+1+1 else 2*i+1
def down:Nat→List Nd→Nat→List Nd
 |0,a,_=>a
 |f+1,a,i=>if a.length≤2*i+1 then a else if Hh (dV a (IA a i)) (dV a i)=true then down f (swp a i (IA a i)) (IA a i)else a
def Po(a:List Nd):List Nd:=(swp a 0 (a.length-1)).take (a.length-1)
def rest(a:List Nd):List Nd:=down (a.length+1) (Po a) 0
theorem acu:∀(f:Nat){a:List Nd}{i:Nat},i<f→i<a.length→UpI a i→Hp (up f a i)∧(up f a i).length=a.length∧∀x,x∈up f a i↔x∈a
 |0,_,_,h,_,_=>by omega
 |f+1,a,i,hf,hi,h=>by
  unfold up;split
  ·rename_i hc;have hp:(i-1)/2<a.length:=by omega
   obtain⟨h1,h2,h3⟩:=acu f (a:=swp a i ((i-1)/2)) (i:=(i-1)/2) (by omega) (by rw[j5];omega) (h.step hc.1 hi hc.2);simp_all[j5,Eo]
  ·rename_i hc;refine⟨h.done hi ?_,rfl,fun x=>Iff.rfl⟩;grind
variable{a:List Nd}
theorem abf(h:Hp a)(x:Nd):Hp (push a x)∧(push a x).length=a.length+1∧∀y,y∈push a x↔y∈a∨y=x:=by simp_all[acu,UpI.start,push]
theorem Xf{i:Nat}(h:¬a.length≤2*i+1):IA a i<a.length∧(IA a i=2*i+1∨IA a i=2*i+2)∧∀c,0<c→c<a.length→(c-1)/2=i→wa (dV a (IA a i)) (dV a c):=by
 unfold IA;split
 ·rename_i hc;refine⟨by omega,.inr rfl,fun c c0 hl hp=>?_⟩;have:c=2*i+1∨c=2*i+1+1:=by omega
  rcases this with rfl|rfl
  ·exact yB hc.2
  ·exact CM _
 ·rename_i hc;refine⟨by omega,.inl rfl,fun c c0 hl hp=>?_⟩;have:c=2*i+1∨c=2*i+1+1:=by omega
  rcases this with rfl|rfl
  ·exact CM _
  ·unfold wa;simp_all
theorem Rj:∀(f:Nat){a:List Nd}{i:Nat},a.length≤f+i→DnI a i→Hp (down f a i)∧(down f a i).length=a.length∧∀x,x∈down f a i↔x∈a
 |0,a,i,hf,h=>⟨h.done fun c c0 hc hp=>by omega,rfl,fun x=>Iff.rfl⟩
 |f+1,a,i,hf,h=>by
  unfold down;split
  ·exact⟨h.done fun c c0 hc hp=>by omega,rfl,fun x=>Iff.rfl⟩
  ·rename_i hl;obtain⟨k1,k2,k3⟩:=Xf hl;split
   ·rename_i hb;obtain⟨h1,h2,h3⟩:=Rj f (a:=swp a i (IA a i)) (i:=IA a i) (by rw[j5];omega) (h.step k1 k2 k3 hb);grind [j5,Eo]
   ·rename_i hb;refine⟨h.done fun c c0 hc hp=>wb ?_ (k3 c c0 hc hp),rfl,fun x=>Iff.rfl⟩;simp_all[wa,ak3]
theorem J5(h:Hp a)(cK:0<a.length):Hp (rest a)∧(rest a).length=a.length-1∧(∀y∈rest a,y∈a)∧(∀y∈a,y=dV a 0∨y∈rest a)∧∀y∈a,(dV a 0).len≤y.len:=by
 have hl:(Po a).length=a.length-1:=by simp[Po]
 obtain⟨h1,h2,h3⟩:=Rj (a.length+1) (a:=Po a) (i:=0) (by omega) (DnI.start h cK);refine⟨h1,by unfold rest;omega,fun y hy=>?_,fun y hy=>?_,fun y hy=>?_⟩
 ·exact(Ri cK y).1 ((h3 y).1 hy)
 ·rcases(Ri cK y).2 hy with h|h
  ·exact .inl h
  ·exact .inr ((h3 y).2 h)
 ·obtain⟨j,hj,rfl⟩:=CN.1 hy;exact Xe (h.min j hj)
structure Ed where
 f:Nat
 t:Nat
 c:Nat
 deriving DecidableEq,Inhabited
def ew(E:List Ed)(i j c:Nat):Prop:=(⟨i,j,c⟩:Ed)∈E
abbrev Lab:=Option (Nat×Nat)
abbrev pj:=Nat→Lab
def zy(o:pj)(v:Nat)(l:Lab):pj:=fun u=>if u=v then l else o u
def yC(E:List Ed)(o:pj):Nat:=E.countP fun y=>(o y.f).isNone
def Hi(n:Nat)(o:pj):Nat:=(List.range n).countP fun v=>(o v).isSome
def J6(E:List Ed)(s v L:Nat):Prop:=(v=s∧L=0)∨lS (ew E) s v L
structure DI(E:List Ed)(n s B:Nat)(o:pj)(pu:Nat)(H:List Nd):Prop where
 hp:Hp H
 node:∀x∈H,x.n<n
 real:∀x∈H,J6 E s x.n x.len
 nj:∀v L e,v<n→o v=some (L,e)→J6 E s v L∧∀L',J6 E s v L'→L≤L'
 front:∀u L e v c,u<n→o u=some (L,e)→(⟨u,v,c⟩:Ed)∈E→o v=none→∃x∈H,x.n=v∧x.len≤L+c
 src:o s=none→∃x∈H,x.n=s∧x.len=0
 Xg:∀x∈H,x.len≤B*Hi n o∧x.e≤Hi n o
 adJ:∀v L e,v<n→o v=some (L,e)→L≤B*n∧e≤n
 cnt:pu+yC E o≤1+E.length
 adK:H.length≤pu
theorem Rk(n:Nat)(o:pj):Hi n o≤n:=by grind [Hi,List.countP_le_length,List.range]
theorem DC{A:Type}[DecidableEq A]{p q:A→Bool}{v:A}:∀{l:List A},l.Nodup→v∈l→(∀u,u≠v→p u=q u)→p v=false→q v=true→l.countP q=l.countP p+1
 |a::l,hn,hv,hpq,h0,h1=>by
  rw[amm]at hn;rw[amh,amh];by_cases e:a=v
  ·grind [List.countP_congr]
  ·have Va:v∈l:=by grind
   rw[DC hn.2 Va hpq h0 h1,hpq a e];omega
variable{o:pj}
theorem Xh{n:Nat}{v:Nat}{l:Nat×Nat}(hv:v<n)(h:o v=none):Hi n (zy o v (some l))=Hi n o+1:=DC (p:=fun v=>(o v).isSome) (q:=fun u=>(zy o v (some l) u).isSome) (v:=v) List.nodup_range (akS.2 hv) (fun u hu=>by simp[zy,hu]) (by simp[h]) (by simp[zy])
theorem DI.least{E:List Ed}{n s B:Nat}{pu:Nat}{H:List Nd}(h:DI E n s B o pu H)(hE:∀y∈E,y.f<n∧y.t<n){v L:Nat}(hv:o v=none)(hw:J6 E s v L):∃x∈H,x.len≤L:=by
 cases hs:o s with
 |none=>obtain⟨x,h1,_,h2⟩:=h.src hs;grind
 |some l=>
  obtain⟨Ls,es⟩:=l;rcases hw with⟨rfl,_⟩|hw
  ·rw[hs]at hv;cases hv
  have key:∀{v L:Nat},lS (ew E) s v L→o v=none→∃x∈H,x.len≤L:=by
   intro v L hw;induction hw with
   | @GA j c hc=>intro hv;have qk:s<n:=(hE _ hc).1;obtain⟨x,h1,_,h2⟩:=h.front s Ls es j c qk hs hc hv;have:=(h.nj s Ls es qk hs).2 0 (.inl ⟨rfl,rfl⟩);grind
   | @snoc m j A c hA hc ih=>
    intro hv;cases hm:o m with
    |none=>grind
    |some l=>obtain⟨Lm,em⟩:=l;have qk:m<n:=(hE _ hc).1;obtain⟨x,h1,_,h2⟩:=h.front m Lm em j c qk hm hc hv;have:=(h.nj m Lm em qk hm).2 A (.inr hA);grind
  exact key hw hv
theorem DI.skip{E:List Ed}{n s B:Nat}{pu:Nat}{H:List Nd}(h:DI E n s B o pu H)(cK:0<H.length)(qY:(o (dV H 0).n).isSome=true):DI E n s B o pu (rest H):=by
 obtain⟨r1,r2,r3,r4,r5⟩:=J5 h.hp cK;have other:∀x∈H,o x.n=none→x∈rest H:=fun x hx hn=>by grind
 refine⟨r1,fun x hx=>h.node x (r3 x hx),fun x hx=>h.real x (r3 x hx),h.nj,fun u L e v c hu ho he hv=>?_,fun hs=>?_,fun x hx=>h.Xg x (r3 x hx),h.adJ,h.cnt,by rw[r2];have:=h.adK;omega⟩
 ·obtain⟨x,x1,x2,x3⟩:=h.front u L e v c hu ho he hv;grind
 ·obtain⟨x,x1,x2,x3⟩:=h.src hs;grind
def oL(o:pj)(x:Nd):List Ed→Nat→List Nd→Nat×List Nd
 |[],pu,H=>(pu,H)
 |z::es,pu,H=>if(o z.t).isNone=true then oL o x es (pu+1) (push H ⟨z.t,x.len+z.c,x.e+1,pu⟩)else oL o x es pu H
theorem GB{o:pj}{x:Nd}:∀{es:List Ed}{pu:Nat}{H:List Nd},Hp H→∃k,k≤es.length∧(oL o x es pu H).1=pu+k∧(oL o x es pu H).2.length=H.length+k∧Hp (oL o x es pu H).2∧(∀y∈(oL o x es pu H).2,y∈H∨∃z∈es,o z.t=none∧y.n=z.t∧y.len=x.len+z.c∧y.e=x.e+1)∧(∀y∈H,y∈(oL o x es pu H).2)∧∀z∈es,o z.t=none→∃y∈(oL o x es pu H).2,y.n=z.t∧y.len=x.len+z.c
 |[],pu,H,h=>⟨0,akk _,rfl,rfl,h,fun y hy=>.inl hy,fun y hy=>hy,fun z hz=>by cases hz⟩
 |z::es,pu,H,h=>by
  unfold oL;split
  ·rename_i hz;have hz:o z.t=none:=by simpa using hz
   obtain⟨p1,p2,p3⟩:=abf h ⟨z.t,x.len+z.c,x.e+1,pu⟩;obtain⟨k,k1,k2,k3,k4,k5,k6,k7⟩:=GB (o:=o) (x:=x) (es:=es) (pu:=pu+1) p1;refine⟨k+1,by simp;omega,by omega,by omega,k4,fun y hy=>?_,fun y hy=>k6 y ((p3 y).2 (.inl hy)),fun z' hz' hn=>?_⟩
   ·grind
   ·rcases ake.1 hz' with rfl|hz'
    ·exact⟨_,k6 _ ((p3 _).2 (.inr rfl)),rfl,rfl⟩
    ·exact k7 z' hz' hn
  ·rename_i hz;obtain⟨k,k1,k2,k3,k4,k5,k6,k7⟩:=GB (o:=o) (x:=x) (es:=es) (pu:=pu) h;refine⟨k,by simp;omega,k2,k3,k4,fun y hy=>?_,k6,fun z' hz' hn=>?_⟩
   ·simp_all
   grind
theorem Xi(E:List Ed)(o:pj)(v:Nat)(l:Nat×Nat)(h:o v=none):yC E o=yC E (zy o v (some l))+(E.filter fun y=>y.f==v).length:=by
 unfold yC;induction E with
 |nil=>rfl
 |cons y E ih=>grind [zy]
variable{E:List Ed}
theorem DI.settle{n s B:Nat}{o:pj}{pu:Nat}{H:List Nd}(h:DI E n s B o pu H)(hE:∀y∈E,y.f<n∧y.t<n∧y.c≤B)(cK:0<H.length)(Ee:o (dV H 0).n=none):DI E n s B (zy o (dV H 0).n (some ((dV H 0).len,(dV H 0).e))) (oL (zy o (dV H 0).n (some ((dV H 0).len,(dV H 0).e))) (dV H 0) (E.filter fun y=>y.f==(dV H 0).n) pu (rest H)).1 (oL (zy o (dV H 0).n (some ((dV H 0).len,(dV H 0).e))) (dV H 0) (E.filter fun y=>y.f==(dV H 0).n) pu (rest H)).2∧(oL (zy o (dV H 0).n (some ((dV H 0).len,(dV H 0).e))) (dV H 0) (E.filter fun y=>y.f==(dV H 0).n) pu (rest H)).2.length+yC E (zy o (dV H 0).n (some ((dV H 0).len,(dV H 0).e)))<H.length+yC E o:=by
 obtain⟨r1,r2,r3,r4,r5⟩:=J5 h.hp cK;obtain⟨x,hx⟩:∃x,x=dV H 0:=⟨_,rfl⟩;rw[←hx]at Ee r4 r5⊢;have hxm:x∈H:=CN.2 ⟨0,cK,hx.symm⟩;have hxn:=h.node x hxm;obtain⟨o1,ho1⟩:∃o1,o1=zy o x.n (some (x.len,x.e)):=⟨_,rfl⟩;rw[←ho1];have oo:∀v,o1 v=if v=x.n then some (x.len,x.e)else o v:=fun v=>by rw[ho1];rfl
 have on:∀v,o1 v=none→v≠x.n∧o v=none:=fun v hv=>by grind
 obtain⟨k,k1,k2,k3,k4,k5,k6,k7⟩:=GB (o:=o1) (x:=x) (es:=E.filter fun y=>y.f==x.n) (pu:=pu) r1;have hs:Hi n o1=Hi n o+1:=by rw[ho1];exact Xh hxn Ee
 have SQ:yC E o=yC E o1+(E.filter fun y=>y.f==x.n).length:=by grind [Xi]
 have mem:∀z,z∈(E.filter fun y=>y.f==x.n)↔z∈E∧z.f=x.n:=fun z=>by simp[alF]
 have go:∀z,z∈E→z.f=x.n→lS (ew E) s z.t (x.len+z.c):=fun z hz hf=>by
  have he:ew E x.n z.t z.c:=by
   unfold ew;have:(⟨x.n,z.t,z.c⟩:Ed)=z:=by rw[←hf]
   rw[this];omega
  rcases h.real x hxm with⟨e1,e2⟩|hw
  ·rw[e2,akV];rw[e1]at he;exact .GA he
  ·exact .snoc hw he
 have other:∀y∈H,y.n≠x.n→y∈(oL o1 x (E.filter fun y=>y.f==x.n) pu (rest H)).2:=fun y hy hn=>by grind
 refine⟨⟨k4,fun y hy=>?_,fun y hy=>?_,fun v L e hv ho=>?_,fun u L e v c hu ho he hv=>?_,fun hs'=>?_,fun y hy=>?_,fun v L e hv ho=>?_,?_,?_⟩,?_⟩
 ·rcases k5 y hy with h1|⟨z,z1,z2,z3,_⟩
  ·exact h.node y (r3 y h1)
  grind
 ·rcases k5 y hy with h1|⟨z,z1,z2,z3,z4,_⟩
  ·exact h.real y (r3 y h1)
  ·rw[z3,z4];exact .inr (go z ((mem z).1 z1).1 ((mem z).1 z1).2)
 ·rw[oo]at ho;split at ho
  ·rename_i e';simp only[cO,Ua]at ho;obtain⟨rfl,rfl⟩:=ho;subst e';refine⟨h.real x hxm,fun L' hL=>?_⟩;obtain⟨y,y1,y2⟩:=h.least (fun y hy=>⟨(hE y hy).1,(hE y hy).2.1⟩) Ee hL;grind
  ·exact h.nj v L e hv ho
 ·obtain⟨v1,v2⟩:=on v hv;rw[oo]at ho;split at ho
  ·grind
  ·obtain⟨y,y1,y2,y3⟩:=h.front u L e v c hu ho he v2;grind
 ·obtain⟨v1,v2⟩:=on s hs';obtain⟨y,y1,y2,y3⟩:=h.src v2;grind
 ·rw[hs,Nat.mul_succ];rcases k5 y hy with h1|⟨z,z1,z2,z3,z4,z5⟩
  ·have:=h.Xg y (r3 y h1);omega
  ·have:=h.Xg x hxm;grind
 ·rw[oo]at ho;split at ho
  ·simp only[cO,Ua]at ho;obtain⟨rfl,rfl⟩:=ho;have h1:=h.Xg x hxm;have h2:=Rk n o;have h3:B*Hi n o≤B*n:=alr _ h2;omega
  ·exact h.adJ v L e hv ho
 ·have:=h.cnt;omega
 ·have:=h.adK;omega
 omega
theorem DI.start{n s B:Nat}(hs:s<n):DI E n s B (fun _=>none) 1 [⟨s,0,0,0⟩]:=by
 refine⟨fun j j0 hj=>by simp at hj;omega,fun x hx=>?_,fun x hx=>?_,fun v L e _ h=>(by cases h),fun u L e v c _ h=>(by cases h),fun _=>⟨⟨s,0,0,0⟩,by simp,rfl,rfl⟩,fun x hx=>?_,fun v L e _ h=>(by cases h),?_,by simp⟩
 ·simp_all
 ·simp at hx;subst hx;exact .inl ⟨rfl,rfl⟩
 ·simp_all
 simp[yC]
theorem DI.done{n s B:Nat}{o:pj}{pu:Nat}(h:DI E n s B o pu [])(hE:∀y∈E,y.f<n∧y.t<n∧y.c≤B){v:Nat}(hv:v<n):match o v with
 |some (L,_)=>L≤B*n∧J6 E s v L∧∀L',J6 E s v L'→L≤L'
 |none=>∀L',¬J6 E s v L':=by
 cases ho:o v with
 |some l=>obtain⟨L,e⟩:=l;exact⟨(h.adJ v L e hv ho).1,h.nj v L e hv ho⟩
 |none=>
  intro L' hL
  obtain⟨x,hx,_⟩:=h.least (fun y hy=>⟨(hE y hy).1,(hE y hy).2.1⟩) ho hL
  cases hx
set_option maxRecDepth 100000
set_option linter.all false
def Nd.pv(x:Nd):PV:=.agg [.int .i64 x.n,.int .i64 x.len,.int .i64 x.e,.int .i64 x.num]
abbrev oF(a:List Nd):List PV:=a.map Nd.pv
theorem nd0(x:Nd):cell x.pv 0=.int .i64 x.n:=rfl
theorem nd1(x:Nd):cell x.pv 1=.int .i64 x.len:=rfl
theorem nd2(x:Nd):cell x.pv 2=.int .i64 x.e:=rfl
theorem nd3(x:Nd):cell x.pv 3=.int .i64 x.num:=rfl
theorem ndE(x:Nd):PV.agg [cell x.pv 0,cell x.pv 1,cell x.pv 2,cell x.pv 3]=x.pv:=rfl
theorem fe{a:List Nd}{i:Nat}(h:i<a.length):(oF a)[i]?=some (dV a i).pv:=by rw[IT,J4 h];rfl
theorem afJ(a b c:PV):cell (.agg [a,b,c]) 0=a:=rfl
theorem adL(a b c:PV):cell (.agg [a,b,c]) 1=b:=rfl
theorem afK(a b c:PV):cell (.agg [a,b,c]) 2=c:=rfl
theorem ag3(a b c:PV):asAgg 3 (.agg [a,b,c])=some ():=rfl
theorem abg(a b:Nd):jG [.agg [cell a.pv 0,cell a.pv 1,cell a.pv 2],.agg [cell b.pv 0,cell b.pv 1,cell b.pv 2]]=some (.bool (decide (a.len<b.len∨(a.len=b.len∧a.e<b.e)))):=by
 simp only[jG,uw,ag3,afJ,adL,afK,nd0,nd1,nd2,Ko,U,asInt];by_cases h1:a.len<b.len
 ·simp[h1]
 ·by_cases h2:a.len=b.len
  ·simp[h2]
  grind
theorem vj(a:List Nd)(pu:Nat)(i k:Nat)(hi:i<a.length)(hk:k<a.length):aK [.rp [.fn 262 [],.rs 4 (oF a),.int .i64 pu],.int .i64 i,.int .i64 k]=some (.bool (Hh (dV a i) (dV a k))):=by
 have e0:aw 4 (PV.rs 4 (oF a))=some (oF a):=by rfl
 simp only[aK,eb,adL,afK,e0,U,asInt,Ko,aM,fe hi,fe hk,abg,asBool,nd3];grind [dV,Hh]
theorem half(i:Nat)(h:0<i)(hi:i<4611686018427387904):IntKind.i64.wrap ((IntKind.i64.wrap ((i:Int)-1)).tdiv 2)=(((i-1)/2:Nat):Int):=by
 have e1:IntKind.i64.wrap ((i:Int)-1)=((i-1:Nat):Int):=by grind [aY]
 have e2:((i-1:Nat):Int).tdiv 2=(((i-1)/2:Nat):Int):=rfl;grind [aY]
theorem Ep{i:Nat}{es:List PV}(h:i<es.length):an (i:Int) es.length:=⟨by omega,by omega⟩
theorem J7(a:List Nd)(i k:Nat):((oF a).set i (dV a k).pv).set k (dV a i).pv=oF (swp a i k):=by simp[swp,anh]
theorem Rl(zZ:TY2→Option PV)(t1:PV)(es:List PV)(ln ix:Int)(pu:Nat)(out:List PV)(x0 x1 x2:PV):∀(f N:Nat)(a:List Nd)(i:Nat),i<f→f≤N→i<a.length→a.length<4611686018427387904→cg (mP zZ) N ((i:Int),t1,es,ln,ix,(pu:Int),out,x0,x1,x2,oF a,())=zZ (t1,es,ln,IntKind.i64.wrap (ix+1),out,(pu:Int),x0,x1,x2,oF (up f a i),())
 |0,_,_,_,h,_,_,_=>by omega
 |f+1,0,_,_,_,h,_,_=>by omega
 |f+1,N+1,a,i,hf,hN,hi,ha=>by
  simp only[cg];unfold mP up;by_cases h0:0<i
  ·have hp:(i-1)/2<a.length:=by omega
   have hg:decide ((i:Int)>0)=true:=by simp;omega
   simp only[hg,cond_true,half i h0 (by omega),vj a pu i ((i-1)/2) hi hp,U,asBool];by_cases hb:Hh (dV a i) (dV a ((i-1)/2))=true
   ·have hl1:i<(oF a).length:=by simpa using hi
    have hl2:(i-1)/2<(oF a).length:=by omega
    have hl3:(i-1)/2<((oF a).set i (dV a ((i-1)/2)).pv).length:=by simpa using hp
    have IB:((oF a).set i (dV a ((i-1)/2)).pv)[(i-1)/2]?=some (dV a ((i-1)/2)).pv:=by rw[akQ];rw[IS (by omega),fe hp]
    simp only[hb,Ko,AI (Ep hl1),AI (Ep hl2),AI (Ep hl3),akc,fe hi,fe hp,U,ndE,IB,J7,h0,anj];exact Rl zZ t1 es ln ix pu out x0 x1 x2 f N (swp a i ((i-1)/2)) ((i-1)/2) (by omega) (by omega) (by rw[j5];omega) (by rw[j5];omega)
   simp_all
  grind
def tK(v:Nat):Lab→PV
 |none=>.agg [.int .i64 v,.int .i64 (-1),.int .i64 (-1)]
 |some (L,e)=>.agg [.int .i64 v,.int .i64 (L:Int),.int .i64 (e:Int)]
def ea(n:Nat)(o:pj):List PV:=(List.range n).map fun v=>tK v (o v)
def Ed.pv(y:Ed):PV:=.agg [.int .i64 y.f,.int .i64 y.t,.int .i64 y.c]
theorem vk(n:Nat)(o:pj):(ea n o).length=n:=by simp[ea]
theorem vl{n v:Nat}(o:pj)(h:v<n):(ea n o)[v]?=some (tK v (o v)):=by simp[ea,h]
theorem TW{n v:Nat}(o:pj)(l:Nat×Nat)(h:v<n):(ea n o).set v (tK v (some l))=ea n (zy o v (some l)):=by
 apply aks;intro i;rw[akQ];by_cases e:v=i
 ·subst e;rw[AI rfl,AI (by rw[vk];omega),vl _ h];simp[zy]
 ·rw[IS e];by_cases hi:i<n
  ·simp_all[vl,zy,Ne.symm]
  simp_all[alv,vk]
theorem afL(v:Nat)(l:Lab):∃z:Int,asInt .i64 (cell (tK v l) 2)=some z∧(decide (z<0)=l.isNone)∧decide (z≥0)=l.isSome:=by
 cases l with
 |none=>exact⟨-1,rfl,rfl,rfl⟩
 |some p=>obtain⟨L,e⟩:=p;exact⟨e,rfl,by simp,by simp⟩
theorem ed1(y:Ed):cell y.pv 1=.int .i64 y.t:=rfl
theorem ed2(y:Ed):cell y.pv 2=.int .i64 y.c:=rfl
theorem GY(n:Int):asInt .i64 (.int .i64 n)=some n:=by rfl
theorem IC(dt:PV×List PV×Int×List PV×Unit→Option PV)(t1:PV)(n:Nat)(o:pj)(x:Nd)(es:List Ed)(ht:∀z∈es,z.t<n)(hn:n<4294967296)(hx:x.len<4611686018427387904)(hxe:x.e<4611686018427387904)(hc:∀z∈es,z.c<4611686018427387904)(Kx:es.length<4611686018427387904):∀(m N k pu:Nat)(H:List Nd),m+k=es.length→m<N→pu+m<4294967296→H.length+m<4294967296→cg (cH bk dt) N (t1,es.map Ed.pv,((es.length:Nat):Int),(k:Int),ea n o,(pu:Int),.int .i64 x.n,.int .i64 x.len,.int .i64 x.e,oF H,())=dt (t1,ea n o,((oL o x (es.drop k) pu H).1:Int),oF (oL o x (es.drop k) pu H).2,())
 |_,0,_,_,_,_,h,_,_=>by omega
 |0,N+1,k,pu,H,hk,hN,hpu,hH=>by
  simp only[cg];unfold cH;dsimp only;have hg:decide ((k:Int)<((es.length:Nat):Int))=false:=by simp;omega
  rw[hg,List.drop_eq_nil_of_le (by omega)];rfl
 |m+1,N+1,k,pu,H,hk,hN,hpu,hH=>by
  have ih:=IC dt t1 n o x es ht hn hx hxe hc Kx m N (k+1);simp only[cg];generalize cg (cH bk dt) N=rec at ih⊢;unfold cH;dsimp only;have N0:k<es.length:=by omega
  have hg:decide ((k:Int)<((es.length:Nat):Int))=true:=by simp;omega
  obtain⟨z,hz⟩:∃z,es[k]?=some z:=⟨_,cN N0⟩;have hzm:z∈es:=aeB hz;have hzt:=ht z hzm;have G8:(es.map Ed.pv)[k]?=some z.pv:=by simp_all
  have afM:es.drop k=z::es.drop (k+1):=by grind [List.drop_eq_getElem_cons,List.getElem?_eq_getElem,Option.some.inj]
  obtain⟨w,w1,w2,w3⟩:=afL z.t (o z.t);have qk:an (z.t:Int) (ea n o).length:=Ep (by rw[vk];omega);rw[afM,oL];simp only[hg,Ko,aM,G8,U,ed1,ed2,GY,AI qk,akc,vl o hzt,w1,w2];by_cases Ee:(o z.t).isNone=true
  ·have e1:IntKind.i64.wrap ((x.len:Int)+(z.c:Int))=((x.len+z.c:Nat):Int):=by grind [aY]
   have e2:oF H++[PV.agg [.int .i64 z.t,.int .i64 ((x.len+z.c:Nat):Int),.int .i64 ((x.e+1:Nat):Int),.int .i64 pu]]=oF (H++[⟨z.t,x.len+z.c,x.e+1,pu⟩]):=by simp[oF,Nd.pv]
   have e3:(oF (H++[⟨z.t,x.len+z.c,x.e+1,pu⟩])).length=H.length+1:=by simp
   have e4:IntKind.i64.wrap (((H.length+1:Nat):Int)-1)=(H.length:Int):=by grind [aY]
   have fm:(H.length+1)*32≤ae∧0<32:=by unfold ae;omega
   simp only[Ee,Ko,e1,aj (show x.e<9223372036854775807 by omega),e2,e3,e4,AI fm,aj (show pu<9223372036854775807 by omega),mb];refine(Rl rec t1 (es.map Ed.pv) ((es.length:Nat):Int) (k:Int) (pu+1) (ea n o) _ _ _ (H.length+1) rounds (H++[⟨z.t,x.len+z.c,x.e+1,pu⟩]) H.length (by omega) (by unfold rounds;omega) (by simp) (by simp;omega)).trans ?_;rw[aj (by omega)];rw[show up (H.length+1) (H++[⟨z.t,x.len+z.c,x.e+1,pu⟩]) H.length=push H ⟨z.t,x.len+z.c,x.e+1,pu⟩from rfl];refine ih (pu+1) _ (by omega) (by omega) (by omega) ?_;have:(push H ⟨z.t,x.len+z.c,x.e+1,pu⟩).length=H.length+1:=by
    unfold push;have key:∀(f:Nat)(a:List Nd)(i:Nat),(up f a i).length=a.length:=by
     intro f;induction f with
     |zero=>intro a i;rfl
     |succ f ih=>
      intro a i;unfold up;split
      ·rw[ih,j5]
      rfl
    rw[key];simp
   omega
  ·simp only[Ee,cQ,abp,aj (show k<9223372036854775807 by omega)];grind
structure Gr(E:List Ed)(n:Nat)(ks vs:List PV):Prop where
 small:n<4294967296
 len:E.length<1073741824
 node:∀y∈E,y.f<n∧y.t<n∧y.c≤1073741824
 look:∀v:Nat,v<n→aw 3 (b9 (.int .i64 v) (.rs 0 []) (ks.zip vs))=some ((E.filter fun y=>y.f==v).map Ed.pv)
section
variable {E:List Ed} {n:Nat} {ks vs:List PV}
def labelled(o:pj)(x:Nd):pj:=zy o x.n (some (x.len,x.e))
def KR(dt:PV×List PV×Int×List PV×Unit→Option PV)(E:List Ed)(n:Nat)(ks vs:List PV)(o:pj)(x:Nd)(pu:Nat)(H:List Nd):Option PV:=
 if(o x.n).isSome=true then dt (.rm 3 ks vs,ea n o,(pu:Int),oF H,())
 else dt (.rm 3 ks vs,ea n (labelled o x),((oL (labelled o x) x (E.filter fun y=>y.f==x.n) pu H).1:Int),oF (oL (labelled o x) x (E.filter fun y=>y.f==x.n) pu H).2,())
structure Sm(n:Nat)(E:List Ed)(x:Nd)(pu:Nat)(H:List Nd):Prop where
 node:x.n<n
 len:x.len<4611686018427387904
 e:x.e<4611686018427387904
 pu:pu≤1073741824
 H:H.length≤1073741824
theorem zq(hG:Gr E n ks vs)(dt:PV×List PV×Int×List PV×Unit→Option PV)(o:pj)(x:Nd)(pu:Nat)(H:List Nd)(hS:Sm n E x pu H)(A:Int→PV→Int→Option PV):((asInt .i64 (.int .i64 x.n)).bind fun n23=>if an n23 (ea n o).length then(ea n o)[n23.toNat]?.bind fun e24=>(asInt .i64 (cell e24 2)).bind fun n25=>if decide (n25≥0)=true then dt (.rm 3 ks vs,ea n o,(pu:Int),oF H,())else(asInt .i64 (.int .i64 x.n)).bind fun n26=>if an n26 (ea n o).length then(ea n o)[n26.toNat]?.bind fun e27=>(asInt .i64 (.int .i64 x.n)).bind fun n28=>cD 3 (.rm 3 ks vs) (A n26 e27 n28) fun aiX aiY=>(aw 3 (b9 (.int .i64 n28) (.rs 0 []) (aiX.zip aiY))).bind fun afN=>bk.run (cH bk dt) (.rm 3 ks vs,afN,(afN.length:Int),0,(ea n o).set n26.toNat (.agg [.int .i64 x.n,.int .i64 x.len,.int .i64 x.e]),(pu:Int),.int .i64 x.n,.int .i64 x.len,.int .i64 x.e,oF H,())else none else none)=KR dt E n ks vs o x pu H:=by
 have qk:an (x.n:Int) (ea n o).length:=Ep (by rw[vk];exact hS.node)
 obtain⟨w,w1,w2,w3⟩:=afL x.n (o x.n)
 simp only[GY,U,AI qk,akc,vl o hS.node,w1,w3,cD,Ko,hG.look x.n hS.node,mb]
 unfold KR
 by_cases hs:(o x.n).isSome=true
 ·simp only[hs,Ko]
 ·simp only[hs,cQ,abp];have e1:(ea n o).set x.n (.agg [.int .i64 x.n,.int .i64 x.len,.int .i64 x.e])=ea n (labelled o x):=TW o (x.len,x.e) hS.node;rw[e1];have hl:(E.filter fun y=>y.f==x.n).length≤E.length:=alR ..;have bW:∀z∈E.filter (fun y=>y.f==x.n),z∈E:=fun z hz=>(alF.1 hz).1;have h1:=hG.len;have h2:=hS.pu;have h3:=hS.H;have:=IC dt (.rm 3 ks vs) n (labelled o x) x (E.filter fun y=>y.f==x.n) (fun z hz=>(hG.node z (bW z hz)).2.1) hG.small hS.len hS.e (fun z hz=>by have:=(hG.node z (bW z hz)).2.2;omega) (by omega) (E.filter fun y=>y.f==x.n).length rounds 0 pu H (by omega) (by unfold rounds;omega) (by omega) (by omega);simp_all
theorem Xj{a:List Nd}{i:Nat}(h:2*i+1+1<a.length∧Hh (dV a (2*i+1+1)) (dV a (2*i+1))=true):IA a i=2*i+1+1:=AI h
theorem TX{a:List Nd}{i:Nat}(h:¬(2*i+1+1<a.length∧Hh (dV a (2*i+1+1)) (dV a (2*i+1))=true)):IA a i=2*i+1:=IS h
theorem ID(hG:Gr E n ks vs)(dt:PV×List PV×Int×List PV×Unit→Option PV)(o:pj)(x:Nd)(pu:Nat)(z1 z2 z3:Int):∀(f N:Nat)(a:List Nd)(i:Nat),a.length≤f+i→f<N→i<4294967296→Sm n E x pu a→cg (dW bk dt) N ((i:Int),.rm 3 ks vs,(pu:Int),z1,z2,z3,.int .i64 x.n,.int .i64 x.len,.int .i64 x.e,ea n o,oF a,())=KR dt E n ks vs o x pu (down f a i)
 |_,0,_,_,_,h,_,_=>by omega
 |0,N+1,a,i,hf,hN,hi,hS=>by
  simp only[cg];generalize cg (dW bk dt) N=rec;unfold dW down;dsimp only;have e1:IntKind.i64.wrap (IntKind.i64.wrap (2*(i:Int))+1)=((2*i+1:Nat):Int):=by grind [aY]
  have hg:decide (((2*i+1:Nat):Int)≥((oF a).length:Int))=true:=by simp;omega
  rw[e1,AI hg];exact zq hG dt o x pu a hS _
 |f+1,N+1,a,i,hf,hN,hi,hS=>by
  have ih:=ID hG dt o x pu z1 z2 z3 f N;simp only[cg];generalize cg (dW bk dt) N=rec at ih⊢;have e1:IntKind.i64.wrap (IntKind.i64.wrap (2*(i:Int))+1)=((2*i+1:Nat):Int):=by grind [aY]
  have e2:IntKind.i64.wrap (((2*i+1:Nat):Int)+1)=((2*i+1+1:Nat):Int):=aj (by omega);unfold dW down;dsimp only;rw[e1,e2];by_cases hl:a.length≤2*i+1
  ·have hg:decide (((2*i+1:Nat):Int)≥((oF a).length:Int))=true:=by simp;omega
   rw[AI hg,AI hl];exact zq hG dt o x pu a hS _
  ·have hg:¬decide (((2*i+1:Nat):Int)≥((oF a).length:Int))=true:=by simp;omega
   rw[IS hg,IS hl];have hlen:=hS.H;have qV:i<a.length:=by omega
   have hi1:i<(oF a).length:=by simpa using qV
   obtain⟨k1,k2,_⟩:=Xf hl;have SE:IA a i<(oF a).length:=by simpa using k1
   have hk3:IA a i<((oF a).set i (dV a (IA a i)).pv).length:=by simpa using k1
   have IB:((oF a).set i (dV a (IA a i)).pv)[IA a i]?=some (dV a (IA a i)).pv:=by rw[akQ,IS (by omega),fe k1]
   have fin:=ih (swp a i (IA a i)) (IA a i) (by rw[j5];omega) (by omega) (by omega) ⟨hS.node,hS.len,hS.e,hS.pu,by rw[j5];omega⟩;by_cases hc:2*i+1+1<a.length∧Hh (dV a (2*i+1+1)) (dV a (2*i+1))=true
   ·have hk:=Xj hc;have hd:decide (((2*i+1+1:Nat):Int)<((oF a).length:Int))=true:=by simp;omega
    rw[hd];rw[hk]at SE hk3 IB fin k1⊢;simp only[cond_true,vj a pu (2*i+1+1) (2*i+1) (by omega) (by omega),hc.2,U,asBool,Ko,vj a pu (2*i+1+1) i k1 qV];by_cases hb:Hh (dV a (2*i+1+1)) (dV a i)=true
    ·rw[AI hb]at*;simp only[hb,akf,cQ,abp,AI (Ep hi1),AI (Ep SE),AI (Ep hk3),akc,fe qV,fe k1,U,ndE,IB,J7];omega
    ·rw[IS hb];have jc:(!Hh (dV a (2*i+1+1)) (dV a i))=true:=by simpa using hb
     rw[AI jc];exact zq hG dt o x pu a hS _
   ·have hk:=TX hc;have hd:(bif decide (((2*i+1+1:Nat):Int)<((oF a).length:Int))then(aK [.rp [.fn 262 [],.rs 4 (oF a),.int .i64 (pu:Int)],.int .i64 ((2*i+1+1:Nat):Int),.int .i64 ((2*i+1:Nat):Int)]).bind fun r53=>(asBool r53).bind fun b54=>some b54 else some false)=some false:=by
     by_cases h2:2*i+1+1<a.length
     ·have hd:decide (((2*i+1+1:Nat):Int)<((oF a).length:Int))=true:=by simp;omega
      have hb:Hh (dV a (2*i+1+1)) (dV a (2*i+1))=false:=by simp_all
      rw[hd,cond_true,vj a pu (2*i+1+1) (2*i+1) h2 (by omega),U,hb];rfl
     grind
    rw[hd];rw[hk]at SE hk3 IB fin k1⊢;simp only[U,asBool,cQ,abp,vj a pu (2*i+1) i k1 qV];by_cases hb:Hh (dV a (2*i+1)) (dV a i)=true
    ·rw[AI hb]at*;simp only[hb,akf,cQ,abp,AI (Ep hi1),AI (Ep SE),AI (Ep hk3),akc,fe qV,fe k1,U,ndE,IB,J7];omega
    ·rw[IS hb];have jc:(!Hh (dV a (2*i+1)) (dV a i))=true:=by simpa using hb
     rw[AI jc];exact zq hG dt o x pu a hS _
end
section
variable {E:List Ed} {n:Nat} {ks vs:List PV}
theorem TY(hG:Gr E n ks vs)(dt:PV×List PV×Int×List PV×Unit→Option PV)(o:pj)(pu:Nat)(H:List Nd)(hS:∀x∈H,Sm n E x pu H):fq bk (.rm 3 ks vs,ea n o,(pu:Int),oF H,()) dt=if H.length=0 then some (.rs 3 (ea n o))else KR dt E n ks vs o (dV H 0) pu (rest H):=by
 unfold fq;dsimp only;by_cases h0:H.length=0
 ·simp_all
 ·have hg:¬(((oF H).length:Int)==0)=true:=by simp_all
  rw[IS hg,IS h0];have hx:dV H 0∈H:=CN.2 ⟨0,by omega,rfl⟩;have Zs:=hS _ hx;have hH:=Zs.H;have hl:((oF H).length:Int)=(H.length:Int):=by simp
  have e1:IntKind.i64.wrap ((H.length:Int)-1)=((H.length-1:Nat):Int):=by grind [aY]
  have i0:an (0:Int) (oF H).length:=Ep (i:=0) (by omega);have hl1:H.length-1<(oF H).length:=by omega
  have hl3:H.length-1<((oF H).set 0 (dV H (H.length-1)).pv).length:=by simp;omega
  have g0:(oF H)[0]?=some (dV H 0).pv:=fe (by omega);have gl:(oF H)[H.length-1]?=some (dV H (H.length-1)).pv:=fe (by omega);have g3:∃q,((oF H).set 0 (dV H (H.length-1)).pv)[H.length-1]?=some q:=⟨_,cN hl3⟩;obtain⟨q,g3⟩:=g3;have z0:Int.toNat 0=0:=rfl;have lI:(0:Int)≤0∧0≤((H.length-1:Nat):Int)∧((H.length-1:Nat):Int)≤(((((oF H).set 0 (dV H (H.length-1)).pv).set (H.length-1) (dV H 0).pv).length:Nat):Int):=by simp
  simp only[hl,e1,AI i0,z0,g0,U,AI (Ep hl1),akc,gl,ndE,AI (Ep hl3),g3,and_true,AI lI,anf];simp only[nd0,nd1,nd2,J7,←al8,mb];rw[AI (by simp)];have:=ID hG dt o (dV H 0) pu 0 0 0 (H.length+1) rounds (Po H) 0 (by simp[Po];omega) (by unfold rounds;omega) (by omega) ⟨Zs.node,Zs.len,Zs.e,Zs.pu,by simp[Po];omega⟩;exact this
theorem DI.small{s B:Nat}{o:pj}{pu:Nat}{H:List Nd}(h:DI E n s B o pu H)(hG:Gr E n ks vs)(hB:B≤1073741824)(hn:n≤64):∀x∈H,Sm n E x pu H:=fun x hx=>by have h1:=h.Xg x hx;have h2:=Rk n o;have h3:B*Hi n o≤1073741824*64:=amd hB (by omega);have h4:=h.cnt;have h5:=h.adK;have h6:=hG.len;exact⟨h.node x hx,by omega,by omega,by omega,by omega⟩
theorem TZ(hG:Gr E n ks vs){s B:Nat}(hs:s<n)(hB:B≤1073741824)(hEB:∀y∈E,y.c≤B)(hn:n≤64):∃o pu,DI E n s B o pu []∧bk.run (fq bk) (.rm 3 ks vs,ea n (fun _=>none),1,[PV.agg [.int .i64 s,.int .i64 0,.int .i64 0,.int .i64 0]],())=some (.rs 3 (ea n o)):=by
 have hE:∀y∈E,y.f<n∧y.t<n∧y.c≤B:=fun y hy=>⟨(hG.node y hy).1,(hG.node y hy).2.1,hEB y hy⟩;have hlen:=hG.len;obtain⟨a,r,hI,⟨h0,hr⟩,uJ⟩:=TV (body:=fq bk) (A:=pj×Nat×List Nd) (fun a=>(PV.rm 3 ks vs,ea n a.1,(a.2.1:Int),oF a.2.2,())) (fun a=>DI E n s B a.1 a.2.1 a.2.2) (fun a=>a.2.2.length+yC E a.1) (fun a r=>a.2.2=[]∧r=some (.rs 3 (ea n a.1))) (fun a hI dt=>by
  obtain⟨o,pu,H⟩:=a;have hI:DI E n s B o pu H:=hI;dsimp only;rw[TY hG dt o pu H (hI.small hG hB hn)];by_cases hH:H.length=0
  ·simp_all
  ·left;rw[IS hH];have cK:0<H.length:=by omega
   unfold KR;by_cases qY:(o (dV H 0).n).isSome=true
   ·rw[AI qY];refine⟨(o,pu,rest H),hI.skip cK qY,?_,rfl⟩;have:=(J5 hI.hp cK).2.1;grind
   ·rw[IS qY];have Ee:o (dV H 0).n=none:=by simpa using qY
    obtain⟨s1,s2⟩:=hI.settle hE cK Ee;exact⟨(_,_,_),s1,s2,rfl⟩) rounds ((fun _=>none),1,[⟨s,0,0,0⟩]) (DI.start hs) (by
  grind [yC,List.countP_le_length,List.length_cons,List.length_nil,rounds])
 obtain⟨o,pu,H⟩:=a;dsimp only at h0 hr hI;subst h0;refine⟨o,pu,hI,?_⟩;rw[mb,←hr,←uJ];rfl
theorem T0(hG:Gr E n ks vs){s B:Nat}(hs:s<n)(hB:B≤1073741824)(hEB:∀y∈E,y.c≤B)(hn:n≤64):∃o pu,DI E n s B o pu []∧gE [.int .i64 n,.rm 3 ks vs,.int .i64 s]=some (.rs 3 (ea n o)):=by
 obtain⟨o,pu,hI,h⟩:=TZ hG hs hB hEB hn;refine⟨o,pu,hI,?_⟩;have fm:(0:Int)≤(n:Int)∧(n:Int)≤(n:Int)∧n*24≤ae∧0<24∧0<3:=by grind [ae]
 simp only[gE,qw,GY,U,cD,Ko,AI fm,akc,akW];have fill:∀k,k≤n→((List.range n).map fun v=>if v<k then tK v none else PV.agg [.int .i64 0,.int .i64 0,.int .i64 0]).length=n:=fun k _=>by simp
 refine ba (fun k=>(PV.rm 3 ks vs,(s:Int),(n:Int),(k:Int),(List.range n).map (fun v=>if v<k then tK v none else PV.agg [.int .i64 0,.int .i64 0,.int .i64 0]),())) n (fun k hk rec=>?_) (fun rec=>?_) (by unfold rounds;omega) ?_
 ·unfold gY;dsimp only;have hg:decide ((k:Int)<(n:Int))=true:=by simp;omega
  have qk:an (k:Int) ((List.range n).map fun v=>if v<k then tK v none else PV.agg [.int .i64 0,.int .i64 0,.int .i64 0]).length:=Ep (by simp_all);have fe:((List.range n).map fun v=>if v<k then tK v none else PV.agg [.int .i64 0,.int .i64 0,.int .i64 0])[k]?=some (PV.agg [.int .i64 0,.int .i64 0,.int .i64 0]):=by simp[hk]
  have qY:((List.range n).map fun v=>if v<k then tK v none else PV.agg [.int .i64 0,.int .i64 0,.int .i64 0]).set k (.agg [.int .i64 k,.int .i64 (-1),.int .i64 (-1)])=(List.range n).map fun v=>if v<k+1 then tK v none else PV.agg [.int .i64 0,.int .i64 0,.int .i64 0]:=by
   apply aks;intro i;rw[akQ];by_cases e:k=i
   ·subst e;simp[hk,tK]
   ·rw[IS e];by_cases hi:i<n
    ·simp only[IT,alq hi,akb];grind
    simp_all
  rw[AI hg,AI qk,akc,fe,U,qY,aj (by omega)]
 ·unfold gY;dsimp only;have hg:¬decide ((n:Int)<(n:Int))=true:=by simp
  have e0:IntKind.i64.wrap ((1:Nat)-1:Int)=0:=by rfl
  have e1:IntKind.i64.wrap (0+1)=1:=by rfl
  have N1:((List.range n).map fun v=>if v<n then tK v none else PV.agg [.int .i64 0,.int .i64 0,.int .i64 0])=ea n (fun _=>none):=by simp_all[ea,akF,AI]
  rw[IS hg,N1,e1];refine Eq.trans ?_ h;rfl
 ·congr 1;have:((List.range n).map fun v=>if v<0 then tK v none else PV.agg [.int .i64 0,.int .i64 0,.int .i64 0])=List.replicate n (PV.agg [.int .i64 0,.int .i64 0,.int .i64 0]):=by apply aks;grind
  rw[this];rfl
end
theorem abh{S R:Type}{body:S→(S→Option R)→Option R}{s:S}{r:Option R}(h:∀rec,body s rec=r):bk.run body s=r:=ba (fun _=>s) 0 (fun k hk=>by omega) h (by decide) rfl
def tL(n k:Nat)(F:Nat→PV)(z:PV):List PV:=(List.range n).map fun v=>if v<k then F v else z
theorem Mw(n k:Nat)(F:Nat→PV)(z:PV):(tL n k F z).length=n:=by simp[tL]
theorem My{n k:Nat}{F:Nat→PV}{z:PV}(hk:k<n):(tL n k F z)[k]?=some z:=by simp[tL,hk]
theorem Mz{n k:Nat}{F:Nat→PV}{z:PV}(hk:k<n):(tL n k F z).set k (F k)=tL n (k+1) F z:=by
 apply aks;intro i;rw[akQ];by_cases e:k=i
 ·subst e;simp[tL,hk]
 ·rw[IS e];unfold tL;grind
theorem IE(n:Nat)(F:Nat→PV)(z:PV):tL n 0 F z=List.replicate n z:=by unfold tL;apply aks;grind
theorem MA(n:Nat)(F:Nat→PV)(z:PV):tL n n F z=(List.range n).map F:=by simp_all[tL,akF,AI]
def J8:Lab→Int
 |none=> -1
 |some (L,_)=>L
theorem aiZ(v:Nat)(l:Lab):asInt .i64 (cell (tK v l) 1)=some (J8 l):=by
 cases l with
 |none=>rfl
 |some p=>rfl
theorem Pp(n:Nat)(hn:n≤64)(o:pj):jx [.rs 3 (ea n o)]=some (.rs 1 ((List.range n).map fun v=>.int .i64 (J8 (o v)))):=by
 have e0:aw 3 (.rs 3 (ea n o))=some (ea n o):=by rfl
 have fm:(0:Int)≤((n:Nat):Int)∧((n:Nat):Int)≤((n:Nat):Int)∧n*8≤ae∧0<8∧0<1:=by grind [ae]
 simp only[jx,pk,e0,U,vk,akc,AI fm];refine ba (fun k=>(ea n o,(n:Int),(k:Int),tL n k (fun v=>.int .i64 (J8 (o v))) (.int .i64 0),())) n (fun k hk rec=>?_) (fun rec=>?_) (by unfold rounds;omega) ?_
 ·unfold lT;dsimp only;have hg:decide ((k:Int)<(n:Int))=true:=by simp;omega
  rw[AI hg,aM,vl o hk,U,aiZ,U,AI (Ep (by rw[Mw];omega)),akc,My hk,U,aj (by omega)];simp_all[Mz,J8]
 ·simp[lT,IS,MA]
 ·rw[IE];rfl
theorem Gg(i n:Nat)(h:i<n):dw [.int .i64 i,.rp [.int .i64 n]]=some (.bool false):=by
 have h1:decide ((i:Int)<0)=false:=by simp
 have h2:decide ((i:Int)≥(n:Int))=false:=by simp;omega
 simp only[dw,oW,GY,U,h1,cond_false,h2]
theorem ed0(y:Ed):cell y.pv 0=.int .i64 y.f:=rfl
theorem Xk(E:List Ed)(n:Nat)(hn:n≤64)(hE:E.length≤4096)(h:∀y∈E,y.f<n∧y.t<n∧y.c≤1073741824):lv [.int .i64 n,.rs 3 (E.map Ed.pv),.rs 0 []]=some (.int .i64 0):=by
 have e0:aw 3 (.rs 3 (E.map Ed.pv))=some (E.map Ed.pv):=by rfl
 have e1:aw 1 (.rs 0 [])=some []:=by rfl
 have h1:decide ((n:Int)<0)=false:=by simp
 have h2:decide ((n:Int)>64)=false:=by simp;omega
 have h3:¬decide (((E.map Ed.pv).length:Int)>4096)=true:=by simp;omega
 simp only[lv,sZ,GY,e0,e1,U,h1,h2,cond_false,cQ,abp,IS h3];refine ba (fun k=>(([]:List PV),E.map Ed.pv,((E.map Ed.pv).length:Int),(k:Int),(n:Int),())) E.length (fun k hk rec=>?_) (fun rec=>?_) (by unfold rounds;omega) rfl
 ·unfold oh;dsimp only;have hg:decide ((k:Int)<((E.map Ed.pv).length:Int))=true:=by simp;omega
  obtain⟨z,hz⟩:∃z,E[k]?=some z:=⟨_,cN hk⟩;have G8:(E.map Ed.pv)[k]?=some z.pv:=by simp_all
  obtain⟨a1,a2,a3⟩:=h z (aeB hz);have h4:decide ((z.c:Int)<0)=false:=by simp
  have h5:decide ((z.c:Int)>1073741824)=false:=by simp;omega
  simp only[hg,Ko,aM,G8,U,ed0,ed1,ed2,GY,Gg _ _ a1,Gg _ _ a2,asBool,cond_false,cQ,abp,h4,h5,aj (show k<9223372036854775807 by omega)]
 simp[oh,IS,abh,tM]
abbrev J9:=List (Nat×List Ed)
def MB(z:Ed):J9→J9
 |[]=>[(z.f,[z])]
 |(a,l)::r=>if z.f=a then(a,l++[z])::r else(a,l)::MB z r
def s7(v:Nat):J9→List Ed
 |[]=>[]
 |(a,l)::r=>if v=a then l else s7 v r
def MC(m:J9):List (PV×PV):=m.map fun x=>(.int .i64 x.1,.qS 3 (x.2.map Ed.pv))
theorem Xl(a b:Nat):cu (PV.int .i64 a).cells (PV.int .i64 b).cells=decide (a=b):=by
 have:((a:Int)==(b:Int))=decide (a=b):=by grind
 simp_all[PV.cells,cu,peq,aln]
theorem afO(v:Nat):∀m:J9,KJ 3 (.int .i64 v) (MC m)=some ((s7 v m).map Ed.pv)
 |[]=>rfl
 |(a,l)::r=>by
  have ih:=afO v r;unfold MC at ih⊢;simp only[akn,KJ,s7,Xl];by_cases h:v=a
  ·simp[h,fi]
  simp_all
theorem Rm(z:Ed):∀m:J9,dh (.int .i64 z.f) (.qS 3 ((s7 z.f m).map Ed.pv++[z.pv])) (uG (.int .i64 z.f) (MC m))=MC (MB z m)
 |[]=>by rfl
 |(a,l)::r=>by
  have ih:=Rm z r;unfold MC at ih⊢;simp only[akn,uG,MB,s7,Xl];by_cases h:z.f=a
  ·subst h;simp[dh,Xl]
  simp_all[akw,cQ,abp,dh,Xl,akn]
theorem IF(v:Nat)(z:Ed):∀m:J9,s7 v (MB z m)=s7 v m++(if z.f=v then[z]else[])
 |[]=>by simp only[MB,s7];grind
 |(a,l)::r=>by
  simp only[MB];by_cases h:z.f=a
  ·subst h;simp only[Ko,s7];grind
  ·rw[IS h];simp only[s7];by_cases hv:v=a
   ·simp_all
   simp_all[IS,IF]
def AN(E:List Ed):J9:=E.foldl (fun m z=>MB z m) []
theorem IG(E:List Ed)(z:Ed):AN (E++[z])=MB z (AN E):=by simp[AN]
theorem IH(v:Nat)(E:List Ed):s7 v (AN E)=E.filter fun y=>y.f==v:=by
 rw[←amj E];induction E.reverse with
 |nil=>rfl
 |cons z l ih=>grind [List.reverse_cons,IG,IF]
theorem afP(v:Nat):∀m:J9,aw 3 (b9 (.int .i64 v) (.rs 0 []) (((MC m).map fun x=>x.1).zip ((MC m).map fun x=>x.2.oM)))=some ((s7 v m).map Ed.pv)
 |[]=>by rfl
 |(a,l)::r=>by
  have ih:=afP v r;unfold MC at ih⊢;simp only[akn,amv,b9,Xl,s7];by_cases h:v=a
  ·simp[h,PV.oM,aw]
  simp_all
theorem Ka(E:List Ed)(hE:E.length≤4096):gF [.rs 3 (E.map Ed.pv),.bool false]=some (.rm 3 ((MC (AN E)).map fun x=>x.1) ((MC (AN E)).map fun x=>x.2.oM)):=by
 have e0:aw 3 (.rs 3 (E.map Ed.pv))=some (E.map Ed.pv):=by rfl
 simp only[gF,mQ,e0,U,asBool];refine ba (fun k=>(false,E.map Ed.pv,((E.map Ed.pv).length:Int),(k:Int),MC (AN (E.take k)),())) E.length (fun k hk rec=>?_) (fun rec=>?_) (by unfold rounds;omega) (by rfl)
 ·unfold jN;dsimp only;have hg:decide ((k:Int)<((E.map Ed.pv).length:Int))=true:=by simp;omega
  obtain⟨z,hz⟩:∃z,E[k]?=some z:=⟨_,cN hk⟩;have G8:(E.map Ed.pv)[k]?=some z.pv:=by simp_all
  have htk:E.take (k+1)=E.take k++[z]:=by rw[amD,hz];rfl
  have hce:PV.agg [cell z.pv 0,cell z.pv 1,cell z.pv 2]=z.pv:=rfl;have hlen:((s7 z.f (AN (E.take k))).map Ed.pv++[z.pv]).length*24≤ae∧0<24:=by
   have:(s7 z.f (AN (E.take k))).length≤E.length:=by grind [IH,Nat.le_trans,List.length_filter_le,List.length_take]
   grind [List.length_append,List.length_map,List.length_cons,List.length_nil,ae]
  rw[AI hg,aM,G8,U,IS (by simp)];have ai0:PV.agg [.int .i64 z.f,cell z.pv 1,cell z.pv 2]=z.pv:=rfl;simp only[ed0,GY,U,afO,ai0,AI hlen];grind [Rm,IG,aj]
 simp[jN,IS,alg]
theorem Xm(E:List Ed)(n:Nat)(hn:n≤64)(hE:E.length≤4096)(h:∀y∈E,y.f<n∧y.t<n∧y.c≤1073741824):Gr E n ((MC (AN E)).map fun x=>x.1) ((MC (AN E)).map fun x=>x.2.oM):=⟨by omega,by omega,h,fun v _=>by rw[afP,IH]⟩
end Go.Ab.Nw
