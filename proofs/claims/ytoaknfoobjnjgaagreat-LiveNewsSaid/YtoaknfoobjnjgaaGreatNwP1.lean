import Derived.Test.YtoaknfoobjnjgaaGreatAbLib
import Derived.Test.YtoaknfoobjnjgaaGreatSh3
namespace Go.Ab.Nw
section
variable (w:Nat→Nat→Nat→Prop)
def HL:Nat→Nat→Nat→Nat→Prop
 |0,i,j,L=>w i j L
 |k+1,i,j,L=>HL k i j L∨∃A B,HL k i k A∧HL k k j B∧L=A+B
inductive iZ:Nat→Nat→Nat→Prop
 |A9 {i j c:Nat}:w i j c→iZ i j c
 |snoc {i m j A c:Nat}:iZ i m A→w m j c→iZ i j (A+c)
end
section
variable {w:Nat→Nat→Nat→Prop}
variable{i j L:Nat}
theorem HL.up{k:Nat}(h:HL w k i j L):HL w (k+1) i j L:=.inl h
theorem HL.le{k k':Nat}(hk:k≤k')(h:HL w k i j L):HL w k' i j L:=by
 induction hk with
 |refl=>omega
 |step _ ih=>exact ih.up
theorem E2:∀(k:Nat){m i j A B:Nat},m<k→HL w k i m A→HL w k m j B→∃C,C≤A+B∧HL w k i j C
 |0,_,_,_,_,_,h,_,_=>by omega
 |k+1,m,i,j,A,B,h,ha,hb=>by
  by_cases hm:m=k
  ·subst hm;have h1:∃A',A'≤A∧HL w m i m A':=by
    rcases ha with ha|⟨X,Y,x,y,e⟩
    ·grind
    grind
   have h2:∃B',B'≤B∧HL w m m j B':=by
    rcases hb with hb|⟨X,Y,x,y,e⟩
    ·grind
    grind
   obtain⟨A',a1,a2⟩:=h1;obtain⟨B',b1,b2⟩:=h2;exact⟨A'+B',by omega,.inr ⟨A',B',a2,b2,rfl⟩⟩
  ·have bF:m<k:=by omega
   rcases ha with ha|⟨X,Y,x,y,e⟩
   ·rcases hb with hb|⟨X',Y',x',y',e'⟩
    ·obtain⟨C,c1,c2⟩:=E2 k bF ha hb;exact⟨C,c1,.inl c2⟩
    ·obtain⟨C,c1,c2⟩:=E2 k bF ha x';exact⟨C+Y',by omega,.inr ⟨C,Y',c2,y',rfl⟩⟩
   ·rcases hb with hb|⟨X',Y',x',y',e'⟩
    ·obtain⟨C,c1,c2⟩:=E2 k bF y hb;exact⟨X+C,by omega,.inr ⟨X,C,x,c2,rfl⟩⟩
    ·exact⟨X+Y',by omega,.inr ⟨X,Y',x,y',rfl⟩⟩
theorem iZ.join{m A B:Nat}(h1:iZ w i m A)(h2:iZ w m j B):iZ w i j (A+B):=by
 induction h2 with
 |A9 h=>exact .snoc h1 h
 |snoc _ h ih=>rw[←aoT];exact .snoc ih h
theorem HL.walk:∀{k i j L:Nat},HL w k i j L→iZ w i j L
 |0,_,_,_,h=>.A9 h
 |k+1,i,j,L,.inl h=>HL.walk (k:=k) h
 |k+1,i,j,L,.inr ⟨A,B,h1,h2,e⟩=>by rw[e];exact(HL.walk (k:=k) h1).join (HL.walk (k:=k) h2)
theorem iZ.via{n:Nat}(hn:∀i j c,w i j c→i<n)(h:iZ w i j L):∃C,C≤L∧HL w n i j C:=by
 induction h with
 |A9 h=>exact⟨_,aoa _,HL.le (aqN _) (show HL w 0 _ _ _ from h)⟩
 |snoc _ h ih=>obtain⟨C,c1,c2⟩:=ih;obtain⟨D,d1,d2⟩:=E2 n (hn _ _ _ h) c2 (HL.le (aqN _) (show HL w 0 _ _ _ from h));grind
variable{w':Nat→Nat→Nat→Prop}
theorem iZ.mono(hw:∀i j c,w i j c→w' i j c)(h:iZ w i j L):iZ w' i j L:=by
 induction h with
 |A9 h=>exact .A9 (hw _ _ _ h)
 |snoc _ h ih=>exact .snoc ih (hw _ _ _ h)
theorem iZ.leq(hw:∀i j c,w i j c→∃c',c'≤c∧w' i j c')(h:iZ w i j L):∃L',L'≤L∧iZ w' i j L':=by
 induction h with
 |A9 h=>obtain⟨c',h1,h2⟩:=hw _ _ _ h;exact⟨c',h1,.A9 h2⟩
 |snoc _ h ih=>obtain⟨c',h1,h2⟩:=hw _ _ _ h;obtain⟨L',l1,l2⟩:=ih;exact⟨L'+c',by omega,.snoc l2 h2⟩
def UI(w:Nat→Nat→Nat→Prop)(i j:Nat)(o:Option Nat):Prop:=match o with
 |some L=>iZ w i j L∧∀L',iZ w i j L'→L≤L'
 |none=>∀L',¬iZ w i j L'
theorem UI.unique{o o':Option Nat}(h:UI w i j o)(h':UI w i j o'):o=o':=by
 cases o with
 |none=>cases o' with
  |none=>rfl
  |some L=>exact absurd h'.1 (h L)
 |some L=>cases o' with
  |none=>exact absurd h.1 (h' L)
  |some L'=>rw[Nat.le_antisymm (h.2 _ h'.1) (h'.2 _ h.1)]
structure Fw(w:Nat→Nat→Nat→Prop)(inf:Nat)(n:Nat)(d:Nat→Nat→Nat):Prop where
 top:∀i j,i<n→j<n→d i j≤inf
 real:∀i j,i<n→j<n→d i j<inf→iZ w i j (d i j)
def u9(w:Nat→Nat→Nat→Prop)(k i j:Nat)(x:Nat):Prop:=∀L,HL w k i j L→x≤L
variable{d:Nat→Nat→Nat}
theorem aeb{inf n k:Nat}(h:Fw w inf n d)(hi:i<n)(hj:j<n)(hk:k<n){x:Nat}(hx:x=min (d i j) (d i k+d k j)){d':Nat→Nat→Nat}(hd:∀a b,d' a b=if a=i∧b=j then x else d a b):Fw w inf n d'∧(∀a b,d' a b≤d a b)∧(u9 w k i k (d i k)→u9 w k k j (d k j)→u9 w k i j (d i j)→u9 w (k+1) i j (d' i j)):=by
 refine⟨⟨fun a b ha hb=>?_,fun a b ha hb bF=>?_⟩,fun a b=>?_,fun h1 h2 h3 L hL=>?_⟩
 ·rw[hd];split
  ·have:=h.top i j hi hj;omega
  ·exact h.top a b ha hb
 ·rw[hd]at bF⊢;split
  ·rename_i e;rw[No e]at bF;obtain⟨rfl,rfl⟩:=e;by_cases hm:d a b≤d a k+d k b
   ·rw[show x=d a b by omega]at bF⊢;exact h.real a b ha hb bF
   ·have e2:x=d a k+d k b:=by omega
    rw[e2]at bF⊢;exact(h.real a k ha hk (by omega)).join (h.real k b hk hb (by omega))
  ·rename_i e;rw[QU e]at bF;exact h.real a b ha hb bF
 ·grind
 ·rw[hd,No ⟨rfl,rfl⟩];rcases hL with hL|⟨A,B,a1,a2,e⟩
  ·have:=h3 _ hL;omega
  ·have:=h1 _ a1;have:=h2 _ a2;omega
theorem aec{inf n:Nat}(hn:∀i j c,w i j c→i<n)(h:Fw w inf n d)(hi:i<n)(hj:j<n)(hb:u9 w n i j (d i j))(tB:∀L,(∀L',iZ w i j L'→L≤L')→iZ w i j L→L<inf):UI w i j (if d i j<inf then some (d i j)else none):=by
 have low:∀L,iZ w i j L→d i j≤L:=fun L hL=>by obtain⟨C,c1,c2⟩:=hL.via hn;exact aov (hb C c2) c1
 split
 ·rename_i bF;exact⟨h.real i j hi hj bF,low⟩
 ·rename_i G2;intro L hL;have key:∀m,(∃L,L≤m∧iZ w i j L)→∃L,iZ w i j L∧∀L',iZ w i j L'→L≤L':=by
   intro m;induction m with
   |zero=>grind
   |succ m ih=>
    rintro⟨L,hl,hw⟩;by_cases he:∃L,L≤m∧iZ w i j L
    ·exact ih he
    grind
  obtain⟨L0,h1,h2⟩:=key L ⟨L,aoa _,hL⟩;grind
end
structure Nd where
 n:Nat
 len:Nat
 e:Nat
 num:Nat
 deriving DecidableEq,Inhabited
def K4(a b:Nd):Bool:=decide (a.len<b.len∨(a.len=b.len∧(a.e<b.e∨(a.e=b.e∧a.num<b.num))))
def zH(a b:Nd):Prop:=K4 b a=false
theorem UJ(a b:Nd):K4 a b=true↔(a.len<b.len∨(a.len=b.len∧(a.e<b.e∨(a.e=b.e∧a.num<b.num)))):=by simp[K4]
theorem E3(a b:Nd):zH a b↔¬(b.len<a.len∨(b.len=a.len∧(b.e<a.e∨(b.e=a.e∧b.num<a.num)))):=by unfold zH;rw[←UJ];simp
theorem Gj(a:Nd):zH a a:=by rw[E3];omega
theorem zI{a b c:Nd}(h:zH a b)(k:zH b c):zH a c:=by rw[E3]at*;omega
theorem BC{a b:Nd}(h:K4 a b=true):zH a b:=by grind [E3,UJ]
theorem aaP{a b:Nd}(h:zH a b):a.len≤b.len:=by rw[E3]at h;omega
def ee(a:List Nd)(i:Nat):Nd:=a.getD i default
variable{a:List Nd}{i:Nat}
theorem N4(h:i<a.length):a[i]?=some (ee a i):=by simp[ee,List.getD,h]
def swp(a:List Nd)(i k:Nat):List Nd:=(a.set i (ee a k)).set k (ee a i)
@[simp] theorem ku(a:List Nd)(i k:Nat):(swp a i k).length=a.length:=by simp[swp]
theorem agt(a:List Nd)(i j:Nat)(x:Nd)(h:i<a.length):ee (a.set i x) j=if j=i then x else ee a j:=by unfold ee List.getD;grind
theorem pD(a:List Nd)(i k j:Nat)(hi:i<a.length)(hk:k<a.length):ee (swp a i k) j=if j=k then ee a i else if j=i then ee a k else ee a j:=by simp_all[swp,agt]
theorem Gk{x:Nd}:x∈a↔∃i,i<a.length∧ee a i=x:=by
 rw[aoh];constructor
 ·grind [N4]
 ·rintro⟨i,hi,h⟩;exact⟨i,by rw[N4 hi,h]⟩
theorem H6{k:Nat}(hi:i<a.length)(hk:k<a.length)(x:Nd):x∈swp a i k↔x∈a:=by
 rw[Gk,Gk];constructor
 ·rintro⟨j,hj,h⟩;rw[pD _ _ _ _ hi hk]at h;split at h
  ·exact⟨i,hi,h⟩
  ·split at h
   ·exact⟨k,hk,h⟩
   ·exact⟨j,by simpa using hj,h⟩
 ·rintro⟨j,hj,h⟩;by_cases e1:j=i
  ·subst e1;refine⟨k,by simpa using hk,?_⟩;rw[pD _ _ _ _ hi hk,No rfl,h]
  ·by_cases e2:j=k
   ·subst e2;refine⟨i,by simpa using hi,?_⟩;rw[pD _ _ _ _ hi hk];simp_all
   ·exact⟨j,by simpa using hj,by simp_all[pD,QU]⟩
def Hp(a:List Nd):Prop:=∀j,0<j→j<a.length→zH (ee a ((j-1)/2)) (ee a j)
theorem Hp.min(h:Hp a):∀j,j<a.length→zH (ee a 0) (ee a j):=by
 intro j;induction j using Nat.strongRecOn with
 |ind j ih=>
  intro hj;by_cases h0:j=0
  ·subst h0;exact Gj _
  ·exact zI (ih ((j-1)/2) (by omega) (by omega)) (h j (by omega) hj)
def UpI(a:List Nd)(i:Nat):Prop:=(∀j,0<j→j<a.length→j≠i→zH (ee a ((j-1)/2)) (ee a j))∧∀c,0<c→c<a.length→(c-1)/2=i→0<i→zH (ee a ((i-1)/2)) (ee a c)
theorem UpI.done(h:UpI a i)(hi:i<a.length)(hs:i=0∨K4 (ee a i) (ee a ((i-1)/2))=false):Hp a:=by
 intro j h0 hj;by_cases e:j=i
 ·subst e;rcases hs with hs|hs
  ·omega
  ·exact hs
 ·exact h.1 j h0 hj e
theorem UpI.step(h:UpI a i)(h0:0<i)(hi:i<a.length)(hb:K4 (ee a i) (ee a ((i-1)/2))=true):UpI (swp a i ((i-1)/2)) ((i-1)/2):=by
 have hp:(i-1)/2<a.length:=by omega
 have hpi:(i-1)/2<i:=by omega
 obtain⟨p,Pa⟩:∃p,p=(i-1)/2:=⟨_,rfl⟩;rw[←Pa]at hp hpi hb⊢;have hle:=BC hb;refine⟨fun j j0 hj bU=>?_,fun c c0 hc hcp Oy=>?_⟩
 ·rw[ku]at hj;rw[pD _ _ _ _ hi hp,pD _ _ _ _ hi hp,QU bU];by_cases e1:j=i
  ·simp_all
  ·rw[QU e1];by_cases e2:(j-1)/2=p
   ·rw[No e2];have:=h.1 j j0 hj e1;grind [zI]
   ·rw[QU e2];by_cases e3:(j-1)/2=i
    ·rw[No e3];have:=h.2 j j0 hj e3 h0;simp_all
    ·rw[QU e3];exact h.1 j j0 hj e1
 ·rw[ku]at hc;have hpp:(p-1)/2≠p∧(p-1)/2≠i:=by omega
  rw[pD _ _ _ _ hi hp,pD _ _ _ _ hi hp,QU hpp.1,QU hpp.2];have h1:=h.1 p Oy hp (by omega);by_cases e1:c=p
  ·omega
  ·rw[QU e1];by_cases e2:c=i
   ·rw[No e2];omega
   ·rw[QU e2];have:=h.1 c c0 hc e2;grind [zI]
theorem UpI.start(h:Hp a)(x:Nd):UpI (a++[x]) a.length:=by
 have HY:∀j,j<a.length→ee (a++[x]) j=ee a j:=fun j hj=>by simp[ee,List.getD,apn hj]
 refine⟨fun j j0 hj bU=>?_,fun c c0 hc hcp h0=>?_⟩
 ·have:j<a.length:=by simp at hj;omega
  rw[HY _ (by omega),HY _ this];exact h j j0 this
 ·simp at hc;omega
def DnI(a:List Nd)(i:Nat):Prop:=(∀j,0<j→j<a.length→(j-1)/2≠i→zH (ee a ((j-1)/2)) (ee a j))∧∀c,0<c→c<a.length→(c-1)/2=i→0<i→zH (ee a ((i-1)/2)) (ee a c)
theorem DnI.done(h:DnI a i)(hs:∀c,0<c→c<a.length→(c-1)/2=i→zH (ee a i) (ee a c)):Hp a:=by
 intro j h0 hj;by_cases e:(j-1)/2=i
 ·simp_all
 ·exact h.1 j h0 hj e
theorem DnI.step{k:Nat}(h:DnI a i)(hk:k<a.length)(hki:k=2*i+1∨k=2*i+2)(adB:∀c,0<c→c<a.length→(c-1)/2=i→zH (ee a k) (ee a c))(hb:K4 (ee a k) (ee a i)=true):DnI (swp a i k) k:=by
 have hi:i<a.length:=by omega
 have hle:=BC hb;have hpk:(k-1)/2=i:=by omega
 refine⟨fun j j0 hj bU=>?_,fun c c0 hc hcp hk0=>?_⟩
 ·rw[ku]at hj;rw[pD _ _ _ _ hi hk,pD _ _ _ _ hi hk,QU bU];by_cases e1:j=k
  ·simp_all
  ·rw[QU e1];by_cases e2:(j-1)/2=i
   ·grind
   ·rw[QU e2];by_cases e3:j=i
    ·rw[No e3];have:=h.2 k (by omega) hk hpk (by omega);rw[e3];omega
    ·rw[QU e3];exact h.1 j j0 hj e2
 ·rw[ku]at hc;rw[pD _ _ _ _ hi hk,pD _ _ _ _ hi hk,hpk,QU (by omega),No rfl,QU (by omega),QU (by omega)];have:=h.1 c c0 hc (by omega);simp_all
theorem DnI.start(h:Hp a)(bU:0<a.length):DnI ((swp a 0 (a.length-1)).take (a.length-1)) 0:=by
 have hl:((swp a 0 (a.length-1)).take (a.length-1)).length=a.length-1:=by simp
 have HY:∀j,0<j→j<a.length-1→ee ((swp a 0 (a.length-1)).take (a.length-1)) j=ee a j:=fun j j0 hj=>by
  have:ee ((swp a 0 (a.length-1)).take (a.length-1)) j=ee (swp a 0 (a.length-1)) j:=by simp[ee,List.getD,apJ hj]
  rw[this,pD _ _ _ _ (by omega) (by omega),QU (by omega),QU (by omega)]
 refine⟨fun j j0 hj bU=>?_,fun c _ _ _ h0=>by omega⟩;rw[hl]at hj;rw[HY j j0 hj,HY _ (by omega) (by omega)];exact h j j0 (by omega)
theorem UK(bU:0<a.length)(y:Nd):(y∈(swp a 0 (a.length-1)).take (a.length-1)→y∈a)∧(y∈a→y=ee a 0∨y∈(swp a 0 (a.length-1)).take (a.length-1)):=by
 refine⟨fun h=>(H6 bU (by omega) y).1 (apv h),fun h=>?_⟩;have h:=(H6 (i:=0) (k:=a.length-1) bU (by omega) y).2 h;rw[Gk]at h;obtain⟨j,hj,e⟩:=h;rw[ku]at hj;by_cases hl:j=a.length-1
 ·simp_all[pD,No]
 ·right;rw[aoh];refine⟨j,?_⟩;rw[apJ (by omega),N4 (by simpa using hj),e]
theorem XP{S R A:Type}{body:S→(S→Option R)→Option R}(st:A→S)(I:A→Prop)(m:A→Nat)(fin:A→Option R→Prop)(h:∀a,I a→∀rec,(∃a',I a'∧m a'<m a∧body (st a) rec=rec (st a'))∨(∃r,fin a r∧body (st a) rec=r)):∀N a,I a→m a<N→∃a' r,I a'∧fin a' r∧dH body N (st a)=r:=by
 intro N;induction N with
 |zero=>omega
 |succ N ih=>
  intro a hI hm;simp only[dH];rcases h a hI (dH body N)with⟨a',h1,h2,h3⟩|⟨r,h1,h2⟩
  ·grind
  grind
def up:Nat→List Nd→Nat→List Nd
 |0,a,_=>a
 |f+1,a,i=>if 0<i∧K4 (ee a i) (ee a ((i-1)/2))=true then up f (swp a i ((i-1)/2)) ((i-1)/2)else a
def push(a:List Nd)(x:Nd):List Nd:=up (a.length+1) (a++[x]) a.length
def Mp(a:List Nd)(i:Nat):Nat:=if 2*i+1+1<a.length∧K4 (ee a (2*i+1+1)) (ee a (2*i+1))=true then 2*i+1+1 else 2*i+1
def down:Nat→List Nd→Nat→List Nd
 |0,a,_=>a
 |f+1,a,i=>if a.length≤2*i+1 then a else if K4 (ee a (Mp a i)) (ee a i)=true then down f (swp a i (Mp a i)) (Mp a i)else a
def Tc(a:List Nd):List Nd:=(swp a 0 (a.length-1)).take (a.length-1)
def rest(a:List Nd):List Nd:=down (a.length+1) (Tc a) 0
theorem afh:∀(f:Nat){a:List Nd}{i:Nat},i<f→i<a.length→UpI a i→Hp (up f a i)∧(up f a i).length=a.length∧∀x,x∈up f a i↔x∈a
 |0,_,_,h,_,_=>by omega
 |f+1,a,i,hf,hi,h=>by
  unfold up;split
  ·rename_i hc;have hp:(i-1)/2<a.length:=by omega
   obtain⟨h1,h2,h3⟩:=afh f (a:=swp a i ((i-1)/2)) (i:=(i-1)/2) (by omega) (by rw[ku];omega) (h.step hc.1 hi hc.2);simp_all[ku,H6]
  ·rename_i hc;refine⟨h.done hi ?_,rfl,fun x=>Iff.rfl⟩;grind
variable{a:List Nd}
theorem aed(h:Hp a)(x:Nd):Hp (push a x)∧(push a x).length=a.length+1∧∀y,y∈push a x↔y∈a∨y=x:=by simp_all[afh,UpI.start,push]
theorem aaQ{i:Nat}(h:¬a.length≤2*i+1):Mp a i<a.length∧(Mp a i=2*i+1∨Mp a i=2*i+2)∧∀c,0<c→c<a.length→(c-1)/2=i→zH (ee a (Mp a i)) (ee a c):=by
 unfold Mp;split
 ·rename_i hc;refine⟨by omega,.inr rfl,fun c c0 hl hp=>?_⟩;have:c=2*i+1∨c=2*i+1+1:=by omega
  rcases this with rfl|rfl
  ·exact BC hc.2
  ·exact Gj _
 ·rename_i hc;refine⟨by omega,.inl rfl,fun c c0 hl hp=>?_⟩;have:c=2*i+1∨c=2*i+1+1:=by omega
  rcases this with rfl|rfl
  ·exact Gj _
  ·unfold zH;simp_all
theorem UL:∀(f:Nat){a:List Nd}{i:Nat},a.length≤f+i→DnI a i→Hp (down f a i)∧(down f a i).length=a.length∧∀x,x∈down f a i↔x∈a
 |0,a,i,hf,h=>⟨h.done fun c c0 hc hp=>by omega,rfl,fun x=>Iff.rfl⟩
 |f+1,a,i,hf,h=>by
  unfold down;split
  ·exact⟨h.done fun c c0 hc hp=>by omega,rfl,fun x=>Iff.rfl⟩
  ·rename_i hl;obtain⟨k1,k2,k3⟩:=aaQ hl;split
   ·rename_i hb;obtain⟨h1,h2,h3⟩:=UL f (a:=swp a i (Mp a i)) (i:=Mp a i) (by rw[ku];omega) (h.step k1 k2 k3 hb);grind [ku,H6]
   ·rename_i hb;refine⟨h.done fun c c0 hc hp=>zI ?_ (k3 c c0 hc hp),rfl,fun x=>Iff.rfl⟩;simp_all[zH,aoZ]
theorem N5(h:Hp a)(bU:0<a.length):Hp (rest a)∧(rest a).length=a.length-1∧(∀y∈rest a,y∈a)∧(∀y∈a,y=ee a 0∨y∈rest a)∧∀y∈a,(ee a 0).len≤y.len:=by
 have hl:(Tc a).length=a.length-1:=by simp[Tc]
 obtain⟨h1,h2,h3⟩:=UL (a.length+1) (a:=Tc a) (i:=0) (by omega) (DnI.start h bU);refine⟨h1,by unfold rest;omega,fun y hy=>?_,fun y hy=>?_,fun y hy=>?_⟩
 ·exact(UK bU y).1 ((h3 y).1 hy)
 ·rcases(UK bU y).2 hy with h|h
  ·exact .inl h
  ·exact .inr ((h3 y).2 h)
 ·obtain⟨j,hj,rfl⟩:=Gk.1 hy;exact aaP (h.min j hj)
structure Ed where
 f:Nat
 t:Nat
 c:Nat
 deriving DecidableEq,Inhabited
def ew(E:List Ed)(i j c:Nat):Prop:=(⟨i,j,c⟩:Ed)∈E
abbrev Lab:=Option (Nat×Nat)
abbrev qP:=Nat→Lab
def CO(o:qP)(v:Nat)(l:Lab):qP:=fun u=>if u=v then l else o u
def BD(E:List Ed)(o:qP):Nat:=E.countP fun y=>(o y.f).isNone
def K5(n:Nat)(o:qP):Nat:=(List.range n).countP fun v=>(o v).isSome
def N6(E:List Ed)(s v L:Nat):Prop:=(v=s∧L=0)∨iZ (ew E) s v L
structure DI(E:List Ed)(n s B:Nat)(o:qP)(pu:Nat)(H:List Nd):Prop where
 hp:Hp H
 node:∀x∈H,x.n<n
 real:∀x∈H,N6 E s x.n x.len
 lM:∀v L e,v<n→o v=some (L,e)→N6 E s v L∧∀L',N6 E s v L'→L≤L'
 front:∀u L e v c,u<n→o u=some (L,e)→(⟨u,v,c⟩:Ed)∈E→o v=none→∃x∈H,x.n=v∧x.len≤L+c
 src:o s=none→∃x∈H,x.n=s∧x.len=0
 aaR:∀x∈H,x.len≤B*K5 n o∧x.e≤K5 n o
 agu:∀v L e,v<n→o v=some (L,e)→L≤B*n∧e≤n
 cnt:pu+BD E o≤1+E.length
 agv:H.length≤pu
theorem UM(n:Nat)(o:qP):K5 n o≤n:=by grind [K5,List.countP_le_length,List.range]
theorem Hr{A:Type}[DecidableEq A]{p q:A→Bool}{v:A}:∀{l:List A},l.Nodup→v∈l→(∀u,u≠v→p u=q u)→p v=false→q v=true→l.countP q=l.countP p+1
 |a::l,hn,hv,hpq,h0,h1=>by
  rw[apx]at hn;rw[List.countP_cons,List.countP_cons];by_cases e:a=v
  ·grind [List.countP_congr]
  ·have Zn:v∈l:=by grind
   rw[Hr hn.2 Zn hpq h0 h1,hpq a e];omega
variable{o:qP}
theorem aaS{n:Nat}{v:Nat}{l:Nat×Nat}(hv:v<n)(h:o v=none):K5 n (CO o v (some l))=K5 n o+1:=Hr (p:=fun v=>(o v).isSome) (q:=fun u=>(CO o v (some l) u).isSome) (v:=v) ap7 (aoA.2 hv) (fun u hu=>by simp[CO,hu]) (by simp[h]) (by simp[CO])
theorem DI.least{E:List Ed}{n s B:Nat}{pu:Nat}{H:List Nd}(h:DI E n s B o pu H)(hE:∀y∈E,y.f<n∧y.t<n){v L:Nat}(hv:o v=none)(hw:N6 E s v L):∃x∈H,x.len≤L:=by
 cases hs:o s with
 |none=>obtain⟨x,h1,_,h2⟩:=h.src hs;grind
 |some l=>
  obtain⟨Ls,es⟩:=l;rcases hw with⟨rfl,_⟩|hw
  ·rw[hs]at hv;cases hv
  have key:∀{v L:Nat},iZ (ew E) s v L→o v=none→∃x∈H,x.len≤L:=by
   intro v L hw;induction hw with
   | @A9 j c hc=>intro hv;have k8:s<n:=(hE _ hc).1;obtain⟨x,h1,_,h2⟩:=h.front s Ls es j c k8 hs hc hv;have:=(h.lM s Ls es k8 hs).2 0 (.inl ⟨rfl,rfl⟩);grind
   | @snoc m j A c hA hc ih=>
    intro hv;cases hm:o m with
    |none=>grind
    |some l=>obtain⟨Lm,em⟩:=l;have k8:m<n:=(hE _ hc).1;obtain⟨x,h1,_,h2⟩:=h.front m Lm em j c k8 hm hc hv;have:=(h.lM m Lm em k8 hm).2 A (.inr hA);grind
  exact key hw hv
theorem DI.skip{E:List Ed}{n s B:Nat}{pu:Nat}{H:List Nd}(h:DI E n s B o pu H)(bU:0<H.length)(sx:(o (ee H 0).n).isSome=true):DI E n s B o pu (rest H):=by
 obtain⟨r1,r2,r3,r4,r5⟩:=N5 h.hp bU;have other:∀x∈H,o x.n=none→x∈rest H:=fun x hx hn=>by grind
 refine⟨r1,fun x hx=>h.node x (r3 x hx),fun x hx=>h.real x (r3 x hx),h.lM,fun u L e v c hu ho he hv=>?_,fun hs=>?_,fun x hx=>h.aaR x (r3 x hx),h.agu,h.cnt,by rw[r2];have:=h.agv;omega⟩
 ·obtain⟨x,x1,x2,x3⟩:=h.front u L e v c hu ho he hv;grind
 ·obtain⟨x,x1,x2,x3⟩:=h.src hs;grind
def qw(o:qP)(x:Nd):List Ed→Nat→List Nd→Nat×List Nd
 |[],pu,H=>(pu,H)
 |z::es,pu,H=>if(o z.t).isNone=true then qw o x es (pu+1) (push H ⟨z.t,x.len+z.c,x.e+1,pu⟩)else qw o x es pu H
theorem J0{o:qP}{x:Nd}:∀{es:List Ed}{pu:Nat}{H:List Nd},Hp H→∃k,k≤es.length∧(qw o x es pu H).1=pu+k∧(qw o x es pu H).2.length=H.length+k∧Hp (qw o x es pu H).2∧(∀y∈(qw o x es pu H).2,y∈H∨∃z∈es,o z.t=none∧y.n=z.t∧y.len=x.len+z.c∧y.e=x.e+1)∧(∀y∈H,y∈(qw o x es pu H).2)∧∀z∈es,o z.t=none→∃y∈(qw o x es pu H).2,y.n=z.t∧y.len=x.len+z.c
 |[],pu,H,h=>⟨0,aoa _,rfl,rfl,h,fun y hy=>.inl hy,fun y hy=>hy,fun z hz=>by cases hz⟩
 |z::es,pu,H,h=>by
  unfold qw;split
  ·rename_i hz;have hz:o z.t=none:=by simpa using hz
   obtain⟨p1,p2,p3⟩:=aed h ⟨z.t,x.len+z.c,x.e+1,pu⟩;obtain⟨k,k1,k2,k3,k4,k5,k6,k7⟩:=J0 (o:=o) (x:=x) (es:=es) (pu:=pu+1) p1;refine⟨k+1,by simp;omega,by omega,by omega,k4,fun y hy=>?_,fun y hy=>k6 y ((p3 y).2 (.inl hy)),fun z' hz' hn=>?_⟩
   ·grind
   ·rcases aoc.1 hz' with rfl|hz'
    ·exact⟨_,k6 _ ((p3 _).2 (.inr rfl)),rfl,rfl⟩
    ·exact k7 z' hz' hn
  ·rename_i hz;obtain⟨k,k1,k2,k3,k4,k5,k6,k7⟩:=J0 (o:=o) (x:=x) (es:=es) (pu:=pu) h;refine⟨k,by simp;omega,k2,k3,k4,fun y hy=>?_,k6,fun z' hz' hn=>?_⟩
   ·simp_all
   grind
theorem aaT(E:List Ed)(o:qP)(v:Nat)(l:Nat×Nat)(h:o v=none):BD E o=BD E (CO o v (some l))+(E.filter fun y=>y.f==v).length:=by
 unfold BD;induction E with
 |nil=>rfl
 |cons y E ih=>grind [CO]
variable{E:List Ed}
theorem DI.settle{n s B:Nat}{o:qP}{pu:Nat}{H:List Nd}(h:DI E n s B o pu H)(hE:∀y∈E,y.f<n∧y.t<n∧y.c≤B)(bU:0<H.length)(A1:o (ee H 0).n=none):DI E n s B (CO o (ee H 0).n (some ((ee H 0).len,(ee H 0).e))) (qw (CO o (ee H 0).n (some ((ee H 0).len,(ee H 0).e))) (ee H 0) (E.filter fun y=>y.f==(ee H 0).n) pu (rest H)).1 (qw (CO o (ee H 0).n (some ((ee H 0).len,(ee H 0).e))) (ee H 0) (E.filter fun y=>y.f==(ee H 0).n) pu (rest H)).2∧(qw (CO o (ee H 0).n (some ((ee H 0).len,(ee H 0).e))) (ee H 0) (E.filter fun y=>y.f==(ee H 0).n) pu (rest H)).2.length+BD E (CO o (ee H 0).n (some ((ee H 0).len,(ee H 0).e)))<H.length+BD E o:=by
 obtain⟨r1,r2,r3,r4,r5⟩:=N5 h.hp bU;obtain⟨x,hx⟩:∃x,x=ee H 0:=⟨_,rfl⟩;rw[←hx]at A1 r4 r5⊢;have Ec:x∈H:=Gk.2 ⟨0,bU,hx.symm⟩;have hxn:=h.node x Ec;obtain⟨o1,ho1⟩:∃o1,o1=CO o x.n (some (x.len,x.e)):=⟨_,rfl⟩;rw[←ho1];have oo:∀v,o1 v=if v=x.n then some (x.len,x.e)else o v:=fun v=>by rw[ho1];rfl
 have on:∀v,o1 v=none→v≠x.n∧o v=none:=fun v hv=>by grind
 obtain⟨k,k1,k2,k3,k4,k5,k6,k7⟩:=J0 (o:=o1) (x:=x) (es:=E.filter fun y=>y.f==x.n) (pu:=pu) r1;have hs:K5 n o1=K5 n o+1:=by rw[ho1];exact aaS hxn A1
 have LN:BD E o=BD E o1+(E.filter fun y=>y.f==x.n).length:=by grind [aaT]
 have mem:∀z,z∈(E.filter fun y=>y.f==x.n)↔z∈E∧z.f=x.n:=fun z=>by simp[aok]
 have go:∀z,z∈E→z.f=x.n→iZ (ew E) s z.t (x.len+z.c):=fun z hz hf=>by
  have he:ew E x.n z.t z.c:=by
   unfold ew;have:(⟨x.n,z.t,z.c⟩:Ed)=z:=by rw[←hf]
   rw[this];omega
  rcases h.real x Ec with⟨e1,e2⟩|hw
  ·rw[e2,apa];rw[e1]at he;exact .A9 he
  ·exact .snoc hw he
 have other:∀y∈H,y.n≠x.n→y∈(qw o1 x (E.filter fun y=>y.f==x.n) pu (rest H)).2:=fun y hy hn=>by grind
 refine⟨⟨k4,fun y hy=>?_,fun y hy=>?_,fun v L e hv ho=>?_,fun u L e v c hu ho he hv=>?_,fun hs'=>?_,fun y hy=>?_,fun v L e hv ho=>?_,?_,?_⟩,?_⟩
 ·rcases k5 y hy with h1|⟨z,z1,z2,z3,_⟩
  ·exact h.node y (r3 y h1)
  grind
 ·rcases k5 y hy with h1|⟨z,z1,z2,z3,z4,_⟩
  ·exact h.real y (r3 y h1)
  ·rw[z3,z4];exact .inr (go z ((mem z).1 z1).1 ((mem z).1 z1).2)
 ·rw[oo]at ho;split at ho
  ·rename_i e';simp only[tb,afu]at ho;obtain⟨rfl,rfl⟩:=ho;subst e';refine⟨h.real x Ec,fun L' hL=>?_⟩;obtain⟨y,y1,y2⟩:=h.least (fun y hy=>⟨(hE y hy).1,(hE y hy).2.1⟩) A1 hL;grind
  ·exact h.lM v L e hv ho
 ·obtain⟨v1,v2⟩:=on v hv;rw[oo]at ho;split at ho
  ·grind
  ·obtain⟨y,y1,y2,y3⟩:=h.front u L e v c hu ho he v2;grind
 ·obtain⟨v1,v2⟩:=on s hs';obtain⟨y,y1,y2,y3⟩:=h.src v2;grind
 ·rw[hs,Nat.mul_succ];rcases k5 y hy with h1|⟨z,z1,z2,z3,z4,z5⟩
  ·have:=h.aaR y (r3 y h1);omega
  ·have:=h.aaR x Ec;grind
 ·rw[oo]at ho;split at ho
  ·simp only[tb,afu]at ho;obtain⟨rfl,rfl⟩:=ho;have h1:=h.aaR x Ec;have h2:=UM n o;have h3:B*K5 n o≤B*n:=apy _ h2;omega
  ·exact h.agu v L e hv ho
 ·have:=h.cnt;omega
 ·have:=h.agv;omega
 omega
theorem DI.start{n s B:Nat}(hs:s<n):DI E n s B (fun _=>none) 1 [⟨s,0,0,0⟩]:=by
 refine⟨fun j j0 hj=>by simp at hj;omega,fun x hx=>?_,fun x hx=>?_,fun v L e _ h=>(by cases h),fun u L e v c _ h=>(by cases h),fun _=>⟨⟨s,0,0,0⟩,by simp,rfl,rfl⟩,fun x hx=>?_,fun v L e _ h=>(by cases h),?_,by simp⟩
 ·simp_all
 ·simp at hx;subst hx;exact .inl ⟨rfl,rfl⟩
 ·simp_all
 simp[BD]
theorem DI.done{n s B:Nat}{o:qP}{pu:Nat}(h:DI E n s B o pu [])(hE:∀y∈E,y.f<n∧y.t<n∧y.c≤B){v:Nat}(hv:v<n):match o v with
 |some (L,_)=>L≤B*n∧N6 E s v L∧∀L',N6 E s v L'→L≤L'
 |none=>∀L',¬N6 E s v L':=by
 cases ho:o v with
 |some l=>obtain⟨L,e⟩:=l;exact⟨(h.agu v L e hv ho).1,h.lM v L e hv ho⟩
 |none=>
  intro L' hL
  obtain⟨x,hx,_⟩:=h.least (fun y hy=>⟨(hE y hy).1,(hE y hy).2.1⟩) ho hL
  cases hx
set_option maxRecDepth 100000
set_option linter.all false
def Nd.pv(x:Nd):PV:=.agg [.int .i64 x.n,.int .i64 x.len,.int .i64 x.e,.int .i64 x.num]
abbrev ow(a:List Nd):List PV:=a.map Nd.pv
theorem nd0(x:Nd):cell x.pv 0=.int .i64 x.n:=rfl
theorem nd1(x:Nd):cell x.pv 1=.int .i64 x.len:=rfl
theorem nd2(x:Nd):cell x.pv 2=.int .i64 x.e:=rfl
theorem nd3(x:Nd):cell x.pv 3=.int .i64 x.num:=rfl
theorem ndE(x:Nd):PV.agg [cell x.pv 0,cell x.pv 1,cell x.pv 2,cell x.pv 3]=x.pv:=rfl
theorem ey{a:List Nd}{i:Nat}(h:i<a.length):(ow a)[i]?=some (ee a i).pv:=by rw[AT,N4 h];rfl
theorem ajr(a b c:PV):cell (.agg [a,b,c]) 0=a:=rfl
theorem agw(a b c:PV):cell (.agg [a,b,c]) 1=b:=rfl
theorem ajs(a b c:PV):cell (.agg [a,b,c]) 2=c:=rfl
theorem ag3(a b c:PV):asAgg 3 (.agg [a,b,c])=some ():=rfl
theorem aee(a b:Nd):jS [.agg [cell a.pv 0,cell a.pv 1,cell a.pv 2],.agg [cell b.pv 0,cell b.pv 1,cell b.pv 2]]=some (.bool (decide (a.len<b.len∨(a.len=b.len∧a.e<b.e)))):=by
 simp only[jS,xB,ag3,ajr,agw,ajs,nd0,nd1,nd2,BY,U,asInt];by_cases h1:a.len<b.len
 ·simp[h1]
 ·by_cases h2:a.len=b.len
  ·simp[h2]
  grind
theorem yG(a:List Nd)(pu:Nat)(i k:Nat)(hi:i<a.length)(hk:k<a.length):aO [.rp [.fn 282 [],.rs 4 (ow a),.int .i64 pu],.int .i64 i,.int .i64 k]=some (.bool (K4 (ee a i) (ee a k))):=by
 have e0:ah 4 (PV.rs 4 (ow a))=some (ow a):=by rfl
 simp only[aO,ez,agw,ajs,e0,U,asInt,BY,af,ey hi,ey hk,aee,asBool,nd3];grind [ee,K4]
theorem half(i:Nat)(h:0<i)(hi:i<4611686018427387904):IntKind.i64.wrap ((IntKind.i64.wrap ((i:Int)-1)).tdiv 2)=(((i-1)/2:Nat):Int):=by
 have e1:IntKind.i64.wrap ((i:Int)-1)=((i-1:Nat):Int):=by grind [aY]
 have e2:((i-1:Nat):Int).tdiv 2=(((i-1)/2:Nat):Int):=rfl;grind [aY]
theorem H5{i:Nat}{es:List PV}(h:i<es.length):ax (i:Int) es.length:=⟨by omega,by omega⟩
theorem N7(a:List Nd)(i k:Nat):((ow a).set i (ee a k).pv).set k (ee a i).pv=ow (swp a i k):=by simp[swp,List.map_set]
theorem UN(Hn:TY2→Option PV)(t1:PV)(es:List PV)(ln ix:Int)(pu:Nat)(out:List PV)(x0 x1 x2:PV):∀(f N:Nat)(a:List Nd)(i:Nat),i<f→f≤N→i<a.length→a.length<4611686018427387904→dH (nE Hn) N ((i:Int),t1,es,ln,ix,(pu:Int),out,x0,x1,x2,ow a,())=Hn (t1,es,ln,IntKind.i64.wrap (ix+1),out,(pu:Int),x0,x1,x2,ow (up f a i),())
 |0,_,_,_,h,_,_,_=>by omega
 |f+1,0,_,_,_,h,_,_=>by omega
 |f+1,N+1,a,i,hf,hN,hi,ha=>by
  simp only[dH];unfold nE up;by_cases h0:0<i
  ·have hp:(i-1)/2<a.length:=by omega
   have hg:decide ((i:Int)>0)=true:=by simp;omega
   simp only[hg,cond_true,half i h0 (by omega),yG a pu i ((i-1)/2) hi hp,U,asBool];by_cases hb:K4 (ee a i) (ee a ((i-1)/2))=true
   ·have hl1:i<(ow a).length:=by simpa using hi
    have hl2:(i-1)/2<(ow a).length:=by omega
    have hl3:(i-1)/2<((ow a).set i (ee a ((i-1)/2)).pv).length:=by simpa using hp
    have Mq:((ow a).set i (ee a ((i-1)/2)).pv)[(i-1)/2]?=some (ee a ((i-1)/2)).pv:=by rw[aoO];rw[QU (by omega),ey hp]
    simp only[hb,BY,No (H5 hl1),No (H5 hl2),No (H5 hl3),an9,ey hi,ey hp,U,ndE,Mq,N7,h0,and_self];exact UN Hn t1 es ln ix pu out x0 x1 x2 f N (swp a i ((i-1)/2)) ((i-1)/2) (by omega) (by omega) (by rw[ku];omega) (by rw[ku];omega)
   simp_all
  grind
def wk(v:Nat):Lab→PV
 |none=>.agg [.int .i64 v,.int .i64 (-1),.int .i64 (-1)]
 |some (L,e)=>.agg [.int .i64 v,.int .i64 (L:Int),.int .i64 (e:Int)]
def ep(n:Nat)(o:qP):List PV:=(List.range n).map fun v=>wk v (o v)
def Ed.pv(y:Ed):PV:=.agg [.int .i64 y.f,.int .i64 y.t,.int .i64 y.c]
theorem yH(n:Nat)(o:qP):(ep n o).length=n:=by simp[ep]
theorem yI{n v:Nat}(o:qP)(h:v<n):(ep n o)[v]?=some (wk v (o v)):=by simp[ep,h]
theorem XQ{n v:Nat}(o:qP)(l:Nat×Nat)(h:v<n):(ep n o).set v (wk v (some l))=ep n (CO o v (some l)):=by
 apply aox;intro i;rw[aoO];by_cases e:v=i
 ·subst e;rw[No rfl,No (by rw[yH];omega),yI _ h];simp[CO]
 ·rw[QU e];by_cases hi:i<n
  ·simp_all[yI,CO,Ne.symm]
  simp_all[aoY,yH]
theorem ajt(v:Nat)(l:Lab):∃z:Int,asInt .i64 (cell (wk v l) 2)=some z∧(decide (z<0)=l.isNone)∧decide (z≥0)=l.isSome:=by
 cases l with
 |none=>exact⟨-1,rfl,rfl,rfl⟩
 |some p=>obtain⟨L,e⟩:=p;exact⟨e,rfl,by simp,by simp⟩
theorem ed1(y:Ed):cell y.pv 1=.int .i64 y.t:=rfl
theorem ed2(y:Ed):cell y.pv 2=.int .i64 y.c:=rfl
theorem KC(n:Int):asInt .i64 (.int .i64 n)=some n:=by rfl
theorem Mr(dD:PV×List PV×Int×List PV×Unit→Option PV)(t1:PV)(n:Nat)(o:qP)(x:Nd)(es:List Ed)(ht:∀z∈es,z.t<n)(hn:n<4294967296)(hx:x.len<4611686018427387904)(hxe:x.e<4611686018427387904)(hc:∀z∈es,z.c<4611686018427387904)(OB:es.length<4611686018427387904):∀(m N k pu:Nat)(H:List Nd),m+k=es.length→m<N→pu+m<4294967296→H.length+m<4294967296→dH (cS aV dD) N (t1,es.map Ed.pv,((es.length:Nat):Int),(k:Int),ep n o,(pu:Int),.int .i64 x.n,.int .i64 x.len,.int .i64 x.e,ow H,())=dD (t1,ep n o,((qw o x (es.drop k) pu H).1:Int),ow (qw o x (es.drop k) pu H).2,())
 |_,0,_,_,_,_,h,_,_=>by omega
 |0,N+1,k,pu,H,hk,hN,hpu,hH=>by
  simp only[dH];unfold cS;dsimp only;have hg:decide ((k:Int)<((es.length:Nat):Int))=false:=by simp;omega
  rw[hg,aqS (by omega)];rfl
 |m+1,N+1,k,pu,H,hk,hN,hpu,hH=>by
  have ih:=Mr dD t1 n o x es ht hn hx hxe hc OB m N (k+1);simp only[dH];generalize dH (cS aV dD) N=rec at ih⊢;unfold cS;dsimp only;have uF:k<es.length:=by omega
  have hg:decide ((k:Int)<((es.length:Nat):Int))=true:=by simp;omega
  obtain⟨z,hz⟩:∃z,es[k]?=some z:=⟨_,ta uF⟩;have hzm:z∈es:=an4 hz;have hzt:=ht z hzm;have G2:(es.map Ed.pv)[k]?=some z.pv:=by simp_all
  have aju:es.drop k=z::es.drop (k+1):=by grind [List.drop_eq_getElem_cons,List.getElem?_eq_getElem,Option.some.inj]
  obtain⟨w,w1,w2,w3⟩:=ajt z.t (o z.t);have k8:ax (z.t:Int) (ep n o).length:=H5 (by rw[yH];omega);rw[aju,qw];simp only[hg,BY,af,G2,U,ed1,ed2,KC,No k8,an9,yI o hzt,w1,w2];by_cases A1:(o z.t).isNone=true
  ·have e1:IntKind.i64.wrap ((x.len:Int)+(z.c:Int))=((x.len+z.c:Nat):Int):=by grind [aY]
   have e2:ow H++[PV.agg [.int .i64 z.t,.int .i64 ((x.len+z.c:Nat):Int),.int .i64 ((x.e+1:Nat):Int),.int .i64 pu]]=ow (H++[⟨z.t,x.len+z.c,x.e+1,pu⟩]):=by simp[ow,Nd.pv]
   have e3:(ow (H++[⟨z.t,x.len+z.c,x.e+1,pu⟩])).length=H.length+1:=by simp
   have e4:IntKind.i64.wrap (((H.length+1:Nat):Int)-1)=(H.length:Int):=by grind [aY]
   have bw:(H.length+1)*32≤ab∧0<32:=by unfold ab;omega
   simp only[A1,BY,e1,ag (show x.e<9223372036854775807 by omega),e2,e3,e4,No bw,ag (show pu<9223372036854775807 by omega),vV];refine(UN rec t1 (es.map Ed.pv) ((es.length:Nat):Int) (k:Int) (pu+1) (ep n o) _ _ _ (H.length+1) rounds (H++[⟨z.t,x.len+z.c,x.e+1,pu⟩]) H.length (by omega) (by unfold rounds;omega) (by simp) (by simp;omega)).trans ?_;rw[ag (by omega)];rw[show up (H.length+1) (H++[⟨z.t,x.len+z.c,x.e+1,pu⟩]) H.length=push H ⟨z.t,x.len+z.c,x.e+1,pu⟩from rfl];refine ih (pu+1) _ (by omega) (by omega) (by omega) ?_;have:(push H ⟨z.t,x.len+z.c,x.e+1,pu⟩).length=H.length+1:=by
    unfold push;have key:∀(f:Nat)(a:List Nd)(i:Nat),(up f a i).length=a.length:=by
     intro f;induction f with
     |zero=>intro a i;rfl
     |succ f ih=>
      intro a i;unfold up;split
      ·rw[ih,ku]
      rfl
    rw[key];simp
   omega
  ·simp only[A1,AI,OF,ag (show k<9223372036854775807 by omega)];grind
structure Gr(E:List Ed)(n:Nat)(ks vs:List PV):Prop where
 small:n<4294967296
 len:E.length<1073741824
 node:∀y∈E,y.f<n∧y.t<n∧y.c≤1073741824
 look:∀v:Nat,v<n→ah 3 (bS (.int .i64 v) (.rs 0 []) (ks.zip vs))=some ((E.filter fun y=>y.f==v).map Ed.pv)
section
variable {E:List Ed} {n:Nat} {ks vs:List PV}
def labelled(o:qP)(x:Nd):qP:=CO o x.n (some (x.len,x.e))
def KR(dD:PV×List PV×Int×List PV×Unit→Option PV)(E:List Ed)(n:Nat)(ks vs:List PV)(o:qP)(x:Nd)(pu:Nat)(H:List Nd):Option PV:=
 if(o x.n).isSome=true then dD (.rm 3 ks vs,ep n o,(pu:Int),ow H,())
 else dD (.rm 3 ks vs,ep n (labelled o x),((qw (labelled o x) x (E.filter fun y=>y.f==x.n) pu H).1:Int),ow (qw (labelled o x) x (E.filter fun y=>y.f==x.n) pu H).2,())
structure Sm(n:Nat)(E:List Ed)(x:Nd)(pu:Nat)(H:List Nd):Prop where
 node:x.n<n
 len:x.len<4611686018427387904
 e:x.e<4611686018427387904
 pu:pu≤1073741824
 H:H.length≤1073741824
theorem CE(hG:Gr E n ks vs)(dD:PV×List PV×Int×List PV×Unit→Option PV)(o:qP)(x:Nd)(pu:Nat)(H:List Nd)(hS:Sm n E x pu H)(A:Int→PV→Int→Option PV):((asInt .i64 (.int .i64 x.n)).bind fun n23=>if ax n23 (ep n o).length then(ep n o)[n23.toNat]?.bind fun e24=>(asInt .i64 (cell e24 2)).bind fun n25=>if decide (n25≥0)=true then dD (.rm 3 ks vs,ep n o,(pu:Int),ow H,())else(asInt .i64 (.int .i64 x.n)).bind fun n26=>if ax n26 (ep n o).length then(ep n o)[n26.toNat]?.bind fun e27=>(asInt .i64 (.int .i64 x.n)).bind fun n28=>cJ 3 (.rm 3 ks vs) (A n26 e27 n28) fun amR amS=>(ah 3 (bS (.int .i64 n28) (.rs 0 []) (amR.zip amS))).bind fun ajv=>aV.run (cS aV dD) (.rm 3 ks vs,ajv,(ajv.length:Int),0,(ep n o).set n26.toNat (.agg [.int .i64 x.n,.int .i64 x.len,.int .i64 x.e]),(pu:Int),.int .i64 x.n,.int .i64 x.len,.int .i64 x.e,ow H,())else none else none)=KR dD E n ks vs o x pu H:=by
 have k8:ax (x.n:Int) (ep n o).length:=H5 (by rw[yH];exact hS.node)
 obtain⟨w,w1,w2,w3⟩:=ajt x.n (o x.n)
 simp only[KC,U,No k8,an9,yI o hS.node,w1,w3,cJ,BY,hG.look x.n hS.node,vV]
 unfold KR
 by_cases hs:(o x.n).isSome=true
 ·simp only[hs,BY]
 ·simp only[hs,AI,OF];have e1:(ep n o).set x.n (.agg [.int .i64 x.n,.int .i64 x.len,.int .i64 x.e])=ep n (labelled o x):=XQ o (x.len,x.e) hS.node;rw[e1];have hl:(E.filter fun y=>y.f==x.n).length≤E.length:=apV ..;have bk:∀z∈E.filter (fun y=>y.f==x.n),z∈E:=fun z hz=>(aok.1 hz).1;have h1:=hG.len;have h2:=hS.pu;have h3:=hS.H;have:=Mr dD (.rm 3 ks vs) n (labelled o x) x (E.filter fun y=>y.f==x.n) (fun z hz=>(hG.node z (bk z hz)).2.1) hG.small hS.len hS.e (fun z hz=>by have:=(hG.node z (bk z hz)).2.2;omega) (by omega) (E.filter fun y=>y.f==x.n).length rounds 0 pu H (by omega) (by unfold rounds;omega) (by omega) (by omega);simp_all
theorem aaU{a:List Nd}{i:Nat}(h:2*i+1+1<a.length∧K4 (ee a (2*i+1+1)) (ee a (2*i+1))=true):Mp a i=2*i+1+1:=No h
theorem XR{a:List Nd}{i:Nat}(h:¬(2*i+1+1<a.length∧K4 (ee a (2*i+1+1)) (ee a (2*i+1))=true)):Mp a i=2*i+1:=QU h
theorem Ms(hG:Gr E n ks vs)(dD:PV×List PV×Int×List PV×Unit→Option PV)(o:qP)(x:Nd)(pu:Nat)(z1 z2 z3:Int):∀(f N:Nat)(a:List Nd)(i:Nat),a.length≤f+i→f<N→i<4294967296→Sm n E x pu a→dH (ef aV dD) N ((i:Int),.rm 3 ks vs,(pu:Int),z1,z2,z3,.int .i64 x.n,.int .i64 x.len,.int .i64 x.e,ep n o,ow a,())=KR dD E n ks vs o x pu (down f a i)
 |_,0,_,_,_,h,_,_=>by omega
 |0,N+1,a,i,hf,hN,hi,hS=>by
  simp only[dH];generalize dH (ef aV dD) N=rec;unfold ef down;dsimp only;have e1:IntKind.i64.wrap (IntKind.i64.wrap (2*(i:Int))+1)=((2*i+1:Nat):Int):=by grind [aY]
  have hg:decide (((2*i+1:Nat):Int)≥((ow a).length:Int))=true:=by simp;omega
  rw[e1,No hg];exact CE hG dD o x pu a hS _
 |f+1,N+1,a,i,hf,hN,hi,hS=>by
  have ih:=Ms hG dD o x pu z1 z2 z3 f N;simp only[dH];generalize dH (ef aV dD) N=rec at ih⊢;have e1:IntKind.i64.wrap (IntKind.i64.wrap (2*(i:Int))+1)=((2*i+1:Nat):Int):=by grind [aY]
  have e2:IntKind.i64.wrap (((2*i+1:Nat):Int)+1)=((2*i+1+1:Nat):Int):=ag (by omega);unfold ef down;dsimp only;rw[e1,e2];by_cases hl:a.length≤2*i+1
  ·have hg:decide (((2*i+1:Nat):Int)≥((ow a).length:Int))=true:=by simp;omega
   rw[No hg,No hl];exact CE hG dD o x pu a hS _
  ·have hg:¬decide (((2*i+1:Nat):Int)≥((ow a).length:Int))=true:=by simp;omega
   rw[QU hg,QU hl];have hlen:=hS.H;have l8:i<a.length:=by omega
   have hi1:i<(ow a).length:=by simpa using l8
   obtain⟨k1,k2,_⟩:=aaQ hl;have Zv:Mp a i<(ow a).length:=by simpa using k1
   have hk3:Mp a i<((ow a).set i (ee a (Mp a i)).pv).length:=by simpa using k1
   have Mq:((ow a).set i (ee a (Mp a i)).pv)[Mp a i]?=some (ee a (Mp a i)).pv:=by rw[aoO,QU (by omega),ey k1]
   have fin:=ih (swp a i (Mp a i)) (Mp a i) (by rw[ku];omega) (by omega) (by omega) ⟨hS.node,hS.len,hS.e,hS.pu,by rw[ku];omega⟩;by_cases hc:2*i+1+1<a.length∧K4 (ee a (2*i+1+1)) (ee a (2*i+1))=true
   ·have hk:=aaU hc;have hd:decide (((2*i+1+1:Nat):Int)<((ow a).length:Int))=true:=by simp;omega
    rw[hd];rw[hk]at Zv hk3 Mq fin k1⊢;simp only[cond_true,yG a pu (2*i+1+1) (2*i+1) (by omega) (by omega),hc.2,U,asBool,BY,yG a pu (2*i+1+1) i k1 l8];by_cases hb:K4 (ee a (2*i+1+1)) (ee a i)=true
    ·rw[No hb]at*;simp only[hb,alk,AI,OF,No (H5 hi1),No (H5 Zv),No (H5 hk3),an9,ey l8,ey k1,U,ndE,Mq,N7];omega
    ·rw[QU hb];have jn:(!K4 (ee a (2*i+1+1)) (ee a i))=true:=by simpa using hb
     rw[No jn];exact CE hG dD o x pu a hS _
   ·have hk:=XR hc;have hd:(bif decide (((2*i+1+1:Nat):Int)<((ow a).length:Int))then(aO [.rp [.fn 282 [],.rs 4 (ow a),.int .i64 (pu:Int)],.int .i64 ((2*i+1+1:Nat):Int),.int .i64 ((2*i+1:Nat):Int)]).bind fun r53=>(asBool r53).bind fun b54=>some b54 else some false)=some false:=by
     by_cases h2:2*i+1+1<a.length
     ·have hd:decide (((2*i+1+1:Nat):Int)<((ow a).length:Int))=true:=by simp;omega
      have hb:K4 (ee a (2*i+1+1)) (ee a (2*i+1))=false:=by simp_all
      rw[hd,cond_true,yG a pu (2*i+1+1) (2*i+1) h2 (by omega),U,hb];rfl
     grind
    rw[hd];rw[hk]at Zv hk3 Mq fin k1⊢;simp only[U,asBool,AI,OF,yG a pu (2*i+1) i k1 l8];by_cases hb:K4 (ee a (2*i+1)) (ee a i)=true
    ·rw[No hb]at*;simp only[hb,alk,AI,OF,No (H5 hi1),No (H5 Zv),No (H5 hk3),an9,ey l8,ey k1,U,ndE,Mq,N7];omega
    ·rw[QU hb];have jn:(!K4 (ee a (2*i+1)) (ee a i))=true:=by simpa using hb
     rw[No jn];exact CE hG dD o x pu a hS _
end
section
variable {E:List Ed} {n:Nat} {ks vs:List PV}
theorem XS(hG:Gr E n ks vs)(dD:PV×List PV×Int×List PV×Unit→Option PV)(o:qP)(pu:Nat)(H:List Nd)(hS:∀x∈H,Sm n E x pu H):fL aV (.rm 3 ks vs,ep n o,(pu:Int),ow H,()) dD=if H.length=0 then some (.rs 3 (ep n o))else KR dD E n ks vs o (ee H 0) pu (rest H):=by
 unfold fL;dsimp only;by_cases h0:H.length=0
 ·simp_all
 ·have hg:¬(((ow H).length:Int)==0)=true:=by simp_all
  rw[QU hg,QU h0];have hx:ee H 0∈H:=Gk.2 ⟨0,by omega,rfl⟩;have WX:=hS _ hx;have hH:=WX.H;have hl:((ow H).length:Int)=(H.length:Int):=by simp
  have e1:IntKind.i64.wrap ((H.length:Int)-1)=((H.length-1:Nat):Int):=by grind [aY]
  have i0:ax (0:Int) (ow H).length:=H5 (i:=0) (by omega);have hl1:H.length-1<(ow H).length:=by omega
  have hl3:H.length-1<((ow H).set 0 (ee H (H.length-1)).pv).length:=by simp;omega
  have g0:(ow H)[0]?=some (ee H 0).pv:=ey (by omega);have gl:(ow H)[H.length-1]?=some (ee H (H.length-1)).pv:=ey (by omega);have g3:∃q,((ow H).set 0 (ee H (H.length-1)).pv)[H.length-1]?=some q:=⟨_,ta hl3⟩;obtain⟨q,g3⟩:=g3;have z0:Int.toNat 0=0:=rfl;have l7:(0:Int)≤0∧0≤((H.length-1:Nat):Int)∧((H.length-1:Nat):Int)≤(((((ow H).set 0 (ee H (H.length-1)).pv).set (H.length-1) (ee H 0).pv).length:Nat):Int):=by simp
  simp only[hl,e1,No i0,z0,g0,U,No (H5 hl1),an9,gl,ndE,No (H5 hl3),g3,ark,No l7,arf];simp only[nd0,nd1,nd2,N7,←aqq,vV];rw[No (by simp)];have:=Ms hG dD o (ee H 0) pu 0 0 0 (H.length+1) rounds (Tc H) 0 (by simp[Tc];omega) (by unfold rounds;omega) (by omega) ⟨WX.node,WX.len,WX.e,WX.pu,by simp[Tc];omega⟩;exact this
theorem DI.small{s B:Nat}{o:qP}{pu:Nat}{H:List Nd}(h:DI E n s B o pu H)(hG:Gr E n ks vs)(hB:B≤1073741824)(hn:n≤64):∀x∈H,Sm n E x pu H:=fun x hx=>by have h1:=h.aaR x hx;have h2:=UM n o;have h3:B*K5 n o≤1073741824*64:=apR hB (by omega);have h4:=h.cnt;have h5:=h.agv;have h6:=hG.len;exact⟨h.node x hx,by omega,by omega,by omega,by omega⟩
theorem XT(hG:Gr E n ks vs){s B:Nat}(hs:s<n)(hB:B≤1073741824)(hEB:∀y∈E,y.c≤B)(hn:n≤64):∃o pu,DI E n s B o pu []∧aV.run (fL aV) (.rm 3 ks vs,ep n (fun _=>none),1,[PV.agg [.int .i64 s,.int .i64 0,.int .i64 0,.int .i64 0]],())=some (.rs 3 (ep n o)):=by
 have hE:∀y∈E,y.f<n∧y.t<n∧y.c≤B:=fun y hy=>⟨(hG.node y hy).1,(hG.node y hy).2.1,hEB y hy⟩;have hlen:=hG.len;obtain⟨a,r,hI,⟨h0,hr⟩,xZ⟩:=XP (body:=fL aV) (A:=qP×Nat×List Nd) (fun a=>(PV.rm 3 ks vs,ep n a.1,(a.2.1:Int),ow a.2.2,())) (fun a=>DI E n s B a.1 a.2.1 a.2.2) (fun a=>a.2.2.length+BD E a.1) (fun a r=>a.2.2=[]∧r=some (.rs 3 (ep n a.1))) (fun a hI dD=>by
  obtain⟨o,pu,H⟩:=a;have hI:DI E n s B o pu H:=hI;dsimp only;rw[XS hG dD o pu H (hI.small hG hB hn)];by_cases hH:H.length=0
  ·simp_all
  ·left;rw[QU hH];have bU:0<H.length:=by omega
   unfold KR;by_cases sx:(o (ee H 0).n).isSome=true
   ·rw[No sx];refine⟨(o,pu,rest H),hI.skip bU sx,?_,rfl⟩;have:=(N5 hI.hp bU).2.1;grind
   ·rw[QU sx];have A1:o (ee H 0).n=none:=by simpa using sx
    obtain⟨s1,s2⟩:=hI.settle hE bU A1;exact⟨(_,_,_),s1,s2,rfl⟩) rounds ((fun _=>none),1,[⟨s,0,0,0⟩]) (DI.start hs) (by
  grind [BD,List.countP_le_length,List.length_cons,List.length_nil,rounds])
 obtain⟨o,pu,H⟩:=a;dsimp only at h0 hr hI;subst h0;refine⟨o,pu,hI,?_⟩;rw[vV,←hr,←xZ];rfl
theorem XU(hG:Gr E n ks vs){s B:Nat}(hs:s<n)(hB:B≤1073741824)(hEB:∀y∈E,y.c≤B)(hn:n≤64):∃o pu,DI E n s B o pu []∧gU [.int .i64 n,.rm 3 ks vs,.int .i64 s]=some (.rs 3 (ep n o)):=by
 obtain⟨o,pu,hI,h⟩:=XT hG hs hB hEB hn;refine⟨o,pu,hI,?_⟩;have bw:(0:Int)≤(n:Int)∧(n:Int)≤(n:Int)∧n*24≤ab∧0<24∧0<3:=by grind [ab]
 simp only[gU,sI,KC,U,cJ,BY,No bw,an9,aoI];have fill:∀k,k≤n→((List.range n).map fun v=>if v<k then wk v none else PV.agg [.int .i64 0,.int .i64 0,.int .i64 0]).length=n:=fun k _=>by simp
 refine aM (fun k=>(PV.rm 3 ks vs,(s:Int),(n:Int),(k:Int),(List.range n).map (fun v=>if v<k then wk v none else PV.agg [.int .i64 0,.int .i64 0,.int .i64 0]),())) n (fun k hk rec=>?_) (fun rec=>?_) (by unfold rounds;omega) ?_
 ·unfold iD;dsimp only;have hg:decide ((k:Int)<(n:Int))=true:=by simp;omega
  have k8:ax (k:Int) ((List.range n).map fun v=>if v<k then wk v none else PV.agg [.int .i64 0,.int .i64 0,.int .i64 0]).length:=H5 (by simp_all);have ey:((List.range n).map fun v=>if v<k then wk v none else PV.agg [.int .i64 0,.int .i64 0,.int .i64 0])[k]?=some (PV.agg [.int .i64 0,.int .i64 0,.int .i64 0]):=by simp[hk]
  have sx:((List.range n).map fun v=>if v<k then wk v none else PV.agg [.int .i64 0,.int .i64 0,.int .i64 0]).set k (.agg [.int .i64 k,.int .i64 (-1),.int .i64 (-1)])=(List.range n).map fun v=>if v<k+1 then wk v none else PV.agg [.int .i64 0,.int .i64 0,.int .i64 0]:=by
   apply aox;intro i;rw[aoO];by_cases e:k=i
   ·subst e;simp[hk,wk]
   ·rw[QU e];by_cases hi:i<n
    ·simp only[AT,apz hi,IS];grind
    simp_all
  rw[No hg,No k8,an9,ey,U,sx,ag (by omega)]
 ·unfold iD;dsimp only;have hg:¬decide ((n:Int)<(n:Int))=true:=by simp
  have e0:IntKind.i64.wrap ((1:Nat)-1:Int)=0:=by rfl
  have e1:IntKind.i64.wrap (0+1)=1:=by rfl
  have RZ:((List.range n).map fun v=>if v<n then wk v none else PV.agg [.int .i64 0,.int .i64 0,.int .i64 0])=ep n (fun _=>none):=by simp_all[ep,aoB,No]
  rw[QU hg,RZ,e1];refine Eq.trans ?_ h;rfl
 ·congr 1;have:((List.range n).map fun v=>if v<0 then wk v none else PV.agg [.int .i64 0,.int .i64 0,.int .i64 0])=List.replicate n (PV.agg [.int .i64 0,.int .i64 0,.int .i64 0]):=by apply aox;grind
  rw[this];rfl
end
theorem aef{S R:Type}{body:S→(S→Option R)→Option R}{s:S}{r:Option R}(h:∀rec,body s rec=r):aV.run body s=r:=aM (fun _=>s) 0 (fun k hk=>by omega) h (by decide) rfl
def wm(n k:Nat)(F:Nat→PV)(z:PV):List PV:=(List.range n).map fun v=>if v<k then F v else z
theorem Qg(n k:Nat)(F:Nat→PV)(z:PV):(wm n k F z).length=n:=by simp[wm]
theorem Qh{n k:Nat}{F:Nat→PV}{z:PV}(hk:k<n):(wm n k F z)[k]?=some z:=by simp[wm,hk]
theorem Qi{n k:Nat}{F:Nat→PV}{z:PV}(hk:k<n):(wm n k F z).set k (F k)=wm n (k+1) F z:=by
 apply aox;intro i;rw[aoO];by_cases e:k=i
 ·subst e;simp[wm,hk]
 ·rw[QU e];unfold wm;grind
theorem Mt(n:Nat)(F:Nat→PV)(z:PV):wm n 0 F z=List.replicate n z:=by unfold wm;apply aox;grind
theorem Qj(n:Nat)(F:Nat→PV)(z:PV):wm n n F z=(List.range n).map F:=by simp_all[wm,aoB,No]
def N8:Lab→Int
 |none=> -1
 |some (L,_)=>L
theorem amT(v:Nat)(l:Lab):asInt .i64 (cell (wk v l) 1)=some (N8 l):=by
 cases l with
 |none=>rfl
 |some p=>rfl
theorem Td(n:Nat)(hn:n≤64)(o:qP):jF [.rs 3 (ep n o)]=some (.rs 1 ((List.range n).map fun v=>.int .i64 (N8 (o v)))):=by
 have e0:ah 3 (.rs 3 (ep n o))=some (ep n o):=by rfl
 have bw:(0:Int)≤((n:Nat):Int)∧((n:Nat):Int)≤((n:Nat):Int)∧n*8≤ab∧0<8∧0<1:=by grind [ab]
 simp only[jF,qQ,e0,U,yH,an9,No bw];refine aM (fun k=>(ep n o,(n:Int),(k:Int),wm n k (fun v=>.int .i64 (N8 (o v))) (.int .i64 0),())) n (fun k hk rec=>?_) (fun rec=>?_) (by unfold rounds;omega) ?_
 ·unfold me;dsimp only;have hg:decide ((k:Int)<(n:Int))=true:=by simp;omega
  rw[No hg,af,yI o hk,U,amT,U,No (H5 (by rw[Qg];omega)),an9,Qh hk,U,ag (by omega)];simp_all[Qi,N8]
 ·simp[me,QU,Qj]
 ·rw[Mt];rfl
theorem aaV(i n:Nat)(h:i<n):dF [.int .i64 i,.rp [.int .i64 n]]=some (.bool false):=by
 have h1:decide ((i:Int)<0)=false:=by simp
 have h2:decide ((i:Int)≥(n:Int))=false:=by simp;omega
 simp only[dF,qH,KC,U,h1,cond_false,h2]
theorem ed0(y:Ed):cell y.pv 0=.int .i64 y.f:=rfl
theorem aaW(E:List Ed)(n:Nat)(hn:n≤64)(hE:E.length≤4096)(h:∀y∈E,y.f<n∧y.t<n∧y.c≤1073741824):lN [.int .i64 n,.rs 3 (E.map Ed.pv),.rs 0 []]=some (.int .i64 0):=by
 have e0:ah 3 (.rs 3 (E.map Ed.pv))=some (E.map Ed.pv):=by rfl
 have e1:ah 1 (.rs 0 [])=some []:=by rfl
 have h1:decide ((n:Int)<0)=false:=by simp
 have h2:decide ((n:Int)>64)=false:=by simp;omega
 have h3:¬decide (((E.map Ed.pv).length:Int)>4096)=true:=by simp;omega
 simp only[lN,va,KC,e0,e1,U,h1,h2,cond_false,AI,OF,QU h3];refine aM (fun k=>(([]:List PV),E.map Ed.pv,((E.map Ed.pv).length:Int),(k:Int),(n:Int),())) E.length (fun k hk rec=>?_) (fun rec=>?_) (by unfold rounds;omega) rfl
 ·unfold pE;dsimp only;have hg:decide ((k:Int)<((E.map Ed.pv).length:Int))=true:=by simp;omega
  obtain⟨z,hz⟩:∃z,E[k]?=some z:=⟨_,ta hk⟩;have G2:(E.map Ed.pv)[k]?=some z.pv:=by simp_all
  obtain⟨a1,a2,a3⟩:=h z (an4 hz);have h4:decide ((z.c:Int)<0)=false:=by simp
  have h5:decide ((z.c:Int)>1073741824)=false:=by simp;omega
  simp only[hg,BY,af,G2,U,ed0,ed1,ed2,KC,aaV _ _ a1,aaV _ _ a2,asBool,cond_false,AI,OF,h4,h5,ag (show k<9223372036854775807 by omega)]
 simp[pE,QU,aef,wo]
abbrev N9:=List (Nat×List Ed)
def Qk(z:Ed):N9→N9
 |[]=>[(z.f,[z])]
 |(a,l)::r=>if z.f=a then(a,l++[z])::r else(a,l)::Qk z r
def vb(v:Nat):N9→List Ed
 |[]=>[]
 |(a,l)::r=>if v=a then l else vb v r
def Ql(m:N9):List (PV×PV):=m.map fun x=>(.int .i64 x.1,.qg 3 (x.2.map Ed.pv))
theorem aaX(a b:Nat):bO (PV.int .i64 a).cells (PV.int .i64 b).cells=decide (a=b):=by
 have:((a:Int)==(b:Int))=decide (a=b):=by grind
 simp_all[PV.cells,bO,peq,apw]
theorem ajw(v:Nat):∀m:N9,OH 3 (.int .i64 v) (Ql m)=some ((vb v m).map Ed.pv)
 |[]=>rfl
 |(a,l)::r=>by
  have ih:=ajw v r;unfold Ql at ih⊢;simp only[aog,OH,vb,aaX];by_cases h:v=a
  ·simp[h,dQ]
  simp_all
theorem UO(z:Ed):∀m:N9,dd (.int .i64 z.f) (.qg 3 ((vb z.f m).map Ed.pv++[z.pv])) (xW (.int .i64 z.f) (Ql m))=Ql (Qk z m)
 |[]=>by rfl
 |(a,l)::r=>by
  have ih:=UO z r;unfold Ql at ih⊢;simp only[aog,xW,Qk,vb,aaX];by_cases h:z.f=a
  ·subst h;simp[dd,aaX]
  simp_all[aoo,AI,OF,dd,aaX,aog]
theorem Mu(v:Nat)(z:Ed):∀m:N9,vb v (Qk z m)=vb v m++(if z.f=v then[z]else[])
 |[]=>by simp only[Qk,vb];grind
 |(a,l)::r=>by
  simp only[Qk];by_cases h:z.f=a
  ·subst h;simp only[BY,vb];grind
  ·rw[QU h];simp only[vb];by_cases hv:v=a
   ·simp_all
   simp_all[QU,Mu]
def DP(E:List Ed):N9:=E.foldl (fun m z=>Qk z m) []
theorem Mv(E:List Ed)(z:Ed):DP (E++[z])=Qk z (DP E):=by simp[DP]
theorem Mw(v:Nat)(E:List Ed):vb v (DP E)=E.filter fun y=>y.f==v:=by
 rw[←apY E];induction E.reverse with
 |nil=>rfl
 |cons z l ih=>grind [List.reverse_cons,Mv,Mu]
theorem ajx(v:Nat):∀m:N9,ah 3 (bS (.int .i64 v) (.rs 0 []) (((Ql m).map fun x=>x.1).zip ((Ql m).map fun x=>x.2.qA)))=some ((vb v m).map Ed.pv)
 |[]=>by rfl
 |(a,l)::r=>by
  have ih:=ajx v r;unfold Ql at ih⊢;simp only[aog,List.zip_cons_cons,bS,aaX,vb];by_cases h:v=a
  ·simp[h,PV.qA,ah]
  simp_all
theorem Oa(E:List Ed)(hE:E.length≤4096):gV [.rs 3 (E.map Ed.pv),.bool false]=some (.rm 3 ((Ql (DP E)).map fun x=>x.1) ((Ql (DP E)).map fun x=>x.2.qA)):=by
 have e0:ah 3 (.rs 3 (E.map Ed.pv))=some (E.map Ed.pv):=by rfl
 simp only[gV,nF,e0,U,asBool];refine aM (fun k=>(false,E.map Ed.pv,((E.map Ed.pv).length:Int),(k:Int),Ql (DP (E.take k)),())) E.length (fun k hk rec=>?_) (fun rec=>?_) (by unfold rounds;omega) (by rfl)
 ·unfold j6;dsimp only;have hg:decide ((k:Int)<((E.map Ed.pv).length:Int))=true:=by simp;omega
  obtain⟨z,hz⟩:∃z,E[k]?=some z:=⟨_,ta hk⟩;have G2:(E.map Ed.pv)[k]?=some z.pv:=by simp_all
  have YP:E.take (k+1)=E.take k++[z]:=by rw[aqG,hz];rfl
  have hce:PV.agg [cell z.pv 0,cell z.pv 1,cell z.pv 2]=z.pv:=rfl;have hlen:((vb z.f (DP (E.take k))).map Ed.pv++[z.pv]).length*24≤ab∧0<24:=by
   have:(vb z.f (DP (E.take k))).length≤E.length:=by grind [Mw,Nat.le_trans,List.length_filter_le,List.length_take]
   grind [List.length_append,List.length_map,List.length_cons,List.length_nil,ab]
  rw[No hg,af,G2,U,QU (by simp)];have amU:PV.agg [.int .i64 z.f,cell z.pv 1,cell z.pv 2]=z.pv:=rfl;simp only[ed0,KC,U,ajw,amU,No hlen];grind [UO,Mv,ag]
 simp[j6,QU,aoJ]
theorem aaY(E:List Ed)(n:Nat)(hn:n≤64)(hE:E.length≤4096)(h:∀y∈E,y.f<n∧y.t<n∧y.c≤1073741824):Gr E n ((Ql (DP E)).map fun x=>x.1) ((Ql (DP E)).map fun x=>x.2.qA):=⟨by omega,by omega,h,fun v _=>by rw[ajx,Mw]⟩
end Go.Ab.Nw
