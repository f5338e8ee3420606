import Derived.Test.YtcmhmlnkhmefbaaGreatAbLib
import Derived.Test.YtcmhmlnkhmefbaaGreatSh2
namespace Go.Ab.Nw
section
variable (w:Nat→Nat→Nat→Prop)
def Ah:Nat→Nat→Nat→Nat→Prop
 |0,i,j,L=>w i j L
 |k+1,i,j,L=>Ah k i j L∨∃A B,Ah k i k A∧Ah k k j B∧L=A+B
inductive js:Nat→Nat→Nat→Prop
 |Cj {i j c:Nat}:w i j c→js i j c
 |snoc {i m j A c:Nat}:js i m A→w m j c→js i j (A+c)
end
section
variable {w:Nat→Nat→Nat→Prop}
variable{i j L:Nat}
theorem Ah.up{k:Nat}(h:Ah w k i j L):Ah w (k+1) i j L:=.inl h
theorem Ah.le{k k':Nat}(hk:k≤k')(h:Ah w k i j L):Ah w k' i j L:=by
 induction hk with
 |refl=>exact h
 |step _ ih=>exact ih.up
theorem xm:∀(k:Nat){m i j A B:Nat},m<k→Ah w k i m A→Ah w k m j B→∃C,C≤A+B∧Ah w k i j C
 |0,_,_,_,_,_,h,_,_=>by omega
 |k+1,m,i,j,A,B,h,ha,hb=>by
  by_cases hm:m=k
  ·subst hm;have h1:∃A',A'≤A∧Ah w m i m A':=by
    rcases ha with ha|⟨X,Y,x,y,e⟩
    ·exact⟨A,Nat.le_refl _,ha⟩
    ·exact⟨X,by omega,x⟩
   have h2:∃B',B'≤B∧Ah w m m j B':=by
    rcases hb with hb|⟨X,Y,x,y,e⟩
    ·exact⟨B,Nat.le_refl _,hb⟩
    ·exact⟨Y,by omega,y⟩
   obtain⟨A',a1,a2⟩:=h1;obtain⟨B',b1,b2⟩:=h2;exact⟨A'+B',by omega,.inr ⟨A',B',a2,b2,rfl⟩⟩
  ·have br:m<k:=by omega
   rcases ha with ha|⟨X,Y,x,y,e⟩
   ·rcases hb with hb|⟨X',Y',x',y',e'⟩
    ·obtain⟨C,c1,c2⟩:=xm k br ha hb;exact⟨C,c1,.inl c2⟩
    ·obtain⟨C,c1,c2⟩:=xm k br ha x';exact⟨C+Y',by omega,.inr ⟨C,Y',c2,y',rfl⟩⟩
   ·rcases hb with hb|⟨X',Y',x',y',e'⟩
    ·obtain⟨C,c1,c2⟩:=xm k br y hb;exact⟨X+C,by omega,.inr ⟨X,C,x,c2,rfl⟩⟩
    ·exact⟨X+Y',by omega,.inr ⟨X,Y',x,y',rfl⟩⟩
theorem js.join{m A B:Nat}(h1:js w i m A)(h2:js w m j B):js w i j (A+B):=by
 induction h2 with
 |Cj h=>exact .snoc h1 h
 |snoc _ h ih=>rw[←Nat.add_assoc];exact .snoc ih h
theorem Ah.walk:∀{k i j L:Nat},Ah w k i j L→js w i j L
 |0,_,_,_,h=>.Cj h
 |k+1,i,j,L,.inl h=>Ah.walk (k:=k) h
 |k+1,i,j,L,.inr ⟨A,B,h1,h2,e⟩=>by rw[e];exact(Ah.walk (k:=k) h1).join (Ah.walk (k:=k) h2)
theorem js.via{n:Nat}(hn:∀i j c,w i j c→i<n)(h:js w i j L):∃C,C≤L∧Ah w n i j C:=by
 induction h with
 |Cj h=>exact⟨_,Nat.le_refl _,Ah.le (Nat.zero_le _) (show Ah w 0 _ _ _ from h)⟩
 |snoc _ h ih=>obtain⟨C,c1,c2⟩:=ih;obtain⟨D,d1,d2⟩:=xm n (hn _ _ _ h) c2 (Ah.le (Nat.zero_le _) (show Ah w 0 _ _ _ from h));exact⟨D,by omega,d2⟩
variable{w':Nat→Nat→Nat→Prop}
theorem js.mono(hw:∀i j c,w i j c→w' i j c)(h:js w i j L):js w' i j L:=by
 induction h with
 |Cj h=>exact .Cj (hw _ _ _ h)
 |snoc _ h ih=>exact .snoc ih (hw _ _ _ h)
theorem js.leq(hw:∀i j c,w i j c→∃c',c'≤c∧w' i j c')(h:js w i j L):∃L',L'≤L∧js w' i j L':=by
 induction h with
 |Cj h=>obtain⟨c',h1,h2⟩:=hw _ _ _ h;exact⟨c',h1,.Cj h2⟩
 |snoc _ h ih=>obtain⟨c',h1,h2⟩:=hw _ _ _ h;obtain⟨L',l1,l2⟩:=ih;exact⟨L'+c',by omega,.snoc l2 h2⟩
def Ng(w:Nat→Nat→Nat→Prop)(i j:Nat)(o:Option Nat):Prop:=match o with
 |some L=>js w i j L∧∀L',js w i j L'→L≤L'
 |none=>∀L',¬js w i j L'
theorem Ng.unique{o o':Option Nat}(h:Ng w i j o)(h':Ng w i j o'):o=o':=by
 cases o with
 |none=>cases o' with
  |none=>rfl
  |some L=>exact absurd h'.1 (h L)
 |some L=>cases o' with
  |none=>exact absurd h.1 (h' L)
  |some L'=>rw[Nat.le_antisymm (h.2 _ h'.1) (h'.2 _ h.1)]
structure Fw(w:Nat→Nat→Nat→Prop)(inf:Nat)(n:Nat)(d:Nat→Nat→Nat):Prop where
 top:∀i j,i<n→j<n→d i j≤inf
 real:∀i j,i<n→j<n→d i j<inf→js w i j (d i j)
def pg(w:Nat→Nat→Nat→Prop)(k i j:Nat)(x:Nat):Prop:=∀L,Ah w k i j L→x≤L
variable{d:Nat→Nat→Nat}
theorem UW{inf n k:Nat}(h:Fw w inf n d)(hi:i<n)(hj:j<n)(hk:k<n){x:Nat}(hx:x=min (d i j) (d i k+d k j)){d':Nat→Nat→Nat}(hd:∀a b,d' a b=if a=i∧b=j then x else d a b):Fw w inf n d'∧(∀a b,d' a b≤d a b)∧(pg w k i k (d i k)→pg w k k j (d k j)→pg w k i j (d i j)→pg w (k+1) i j (d' i j)):=by
 refine⟨⟨fun a b ha hb=>?_,fun a b ha hb br=>?_⟩,fun a b=>?_,fun h1 h2 h3 L hL=>?_⟩
 ·rw[hd];split
  ·have:=h.top i j hi hj;omega
  ·exact h.top a b ha hb
 ·rw[hd]at br⊢;split
  ·rename_i e;rw[if_pos e]at br;obtain⟨rfl,rfl⟩:=e;by_cases hm:d a b≤d a k+d k b
   ·rw[show x=d a b by omega]at br⊢;exact h.real a b ha hb br
   ·have e2:x=d a k+d k b:=by omega
    rw[e2]at br⊢;exact(h.real a k ha hk (by omega)).join (h.real k b hk hb (by omega))
  ·rename_i e;rw[if_neg e]at br;exact h.real a b ha hb br
 ·rw[hd];split
  ·rename_i e;obtain⟨rfl,rfl⟩:=e;omega
  ·exact Nat.le_refl _
 ·rw[hd,if_pos ⟨rfl,rfl⟩];rcases hL with hL|⟨A,B,a1,a2,e⟩
  ·have:=h3 _ hL;omega
  ·have:=h1 _ a1;have:=h2 _ a2;omega
theorem UX{inf n:Nat}(hn:∀i j c,w i j c→i<n)(h:Fw w inf n d)(hi:i<n)(hj:j<n)(hb:pg w n i j (d i j))(mY:∀L,(∀L',js w i j L'→L≤L')→js w i j L→L<inf):Ng w i j (if d i j<inf then some (d i j)else none):=by
 have low:∀L,js w i j L→d i j≤L:=fun L hL=>by obtain⟨C,c1,c2⟩:=hL.via hn;exact Nat.le_trans (hb C c2) c1
 split
 ·rename_i br;exact⟨h.real i j hi hj br,low⟩
 ·rename_i CN;intro L hL;have key:∀m,(∃L,L≤m∧js w i j L)→∃L,js w i j L∧∀L',js w i j L'→L≤L':=by
   intro m;induction m with
   |zero=>rintro⟨L,hl,hw⟩;exact⟨L,hw,fun L' _=>by omega⟩
   |succ m ih=>
    rintro⟨L,hl,hw⟩;by_cases he:∃L,L≤m∧js w i j L
    ·exact ih he
    ·refine⟨L,hw,fun L' hw'=>?_⟩;have:¬L'≤m:=fun hle=>he ⟨L',hle,hw'⟩;omega
  obtain⟨L0,h1,h2⟩:=key L ⟨L,Nat.le_refl _,hL⟩;have:=mY L0 h2 h1;have:=low L0 h1;omega
end
end Go.Ab.Nw
namespace Go.Ab.Nw
structure Nd where
 n:Nat
 len:Nat
 e:Nat
 num:Nat
 deriving DecidableEq,Inhabited
def Ax(a b:Nd):Bool:=decide (a.len<b.len∨(a.len=b.len∧(a.e<b.e∨(a.e=b.e∧a.num<b.num))))
def so(a b:Nd):Prop:=Ax b a=false
theorem Nh(a b:Nd):Ax a b=true↔(a.len<b.len∨(a.len=b.len∧(a.e<b.e∨(a.e=b.e∧a.num<b.num)))):=by simp[Ax]
theorem xn(a b:Nd):so a b↔¬(b.len<a.len∨(b.len=a.len∧(b.e<a.e∨(b.e=a.e∧b.num<a.num)))):=by unfold so;rw[←Nh];simp
theorem yI(a:Nd):so a a:=by rw[xn];omega
theorem sq{a b c:Nd}(h:so a b)(k:so b c):so a c:=by rw[xn]at*;omega
theorem ug{a b:Nd}(h:Ax a b=true):so a b:=by rw[xn];rw[Nh]at h;omega
theorem R2{a b:Nd}(h:so a b):a.len≤b.len:=by rw[xn]at h;omega
def dD(a:List Nd)(i:Nat):Nd:=a.getD i default
variable{a:List Nd}{i:Nat}
theorem E7(h:i<a.length):a[i]?=some (dD a i):=by simp[dD,List.getD,h]
def swp(a:List Nd)(i k:Nat):List Nd:=(a.set i (dD a k)).set k (dD a i)
@[simp] theorem gO(a:List Nd)(i k:Nat):(swp a i k).length=a.length:=by simp[swp]
theorem R3(a:List Nd)(i j:Nat)(x:Nd)(h:i<a.length):dD (a.set i x) j=if j=i then x else dD a j:=by
 unfold dD List.getD;rw[List.getElem?_set];by_cases e:i=j
 ·subst e;simp[h]
 ·rw[if_neg e,if_neg fun h=>e h.symm]
theorem lA(a:List Nd)(i k j:Nat)(hi:i<a.length)(hk:k<a.length):dD (swp a i k) j=if j=k then dD a i else if j=i then dD a k else dD a j:=by unfold swp;rw[R3 _ _ _ _ (by simpa using hk),R3 _ _ _ _ hi]
theorem yJ{x:Nd}:x∈a↔∃i,i<a.length∧dD a i=x:=by
 rw[List.mem_iff_getElem?];constructor
 ·rintro⟨i,h⟩;have hi:=(List.getElem?_eq_some_iff.1 h).1;rw[E7 hi]at h;exact⟨i,hi,by simpa using h⟩
 ·rintro⟨i,hi,h⟩;exact⟨i,by rw[E7 hi,h]⟩
theorem Ay{k:Nat}(hi:i<a.length)(hk:k<a.length)(x:Nd):x∈swp a i k↔x∈a:=by
 rw[yJ,yJ];constructor
 ·rintro⟨j,hj,h⟩;rw[lA _ _ _ _ hi hk]at h;split at h
  ·exact⟨i,hi,h⟩
  ·split at h
   ·exact⟨k,hk,h⟩
   ·exact⟨j,by simpa using hj,h⟩
 ·rintro⟨j,hj,h⟩;by_cases e1:j=i
  ·subst e1;refine⟨k,by simpa using hk,?_⟩;rw[lA _ _ _ _ hi hk,if_pos rfl,h]
  ·by_cases e2:j=k
   ·subst e2;refine⟨i,by simpa using hi,?_⟩;rw[lA _ _ _ _ hi hk];split
    ·rename_i e;exact absurd e.symm e1
    ·rw[if_pos rfl,h]
   ·exact⟨j,by simpa using hj,by rw[lA _ _ _ _ hi hk,if_neg e2,if_neg e1,h]⟩
def Hp(a:List Nd):Prop:=∀j,0<j→j<a.length→so (dD a ((j-1)/2)) (dD a j)
theorem Hp.min(h:Hp a):∀j,j<a.length→so (dD a 0) (dD a j):=by
 intro j;induction j using Nat.strongRecOn with
 |ind j ih=>
  intro hj;by_cases h0:j=0
  ·subst h0;exact yI _
  ·exact sq (ih ((j-1)/2) (by omega) (by omega)) (h j (by omega) hj)
def UY(a:List Nd)(i:Nat):Prop:=(∀j,0<j→j<a.length→j≠i→so (dD a ((j-1)/2)) (dD a j))∧∀c,0<c→c<a.length→(c-1)/2=i→0<i→so (dD a ((i-1)/2)) (dD a c)
theorem UY.done(h:UY a i)(hi:i<a.length)(hs:i=0∨Ax (dD a i) (dD a ((i-1)/2))=false):Hp a:=by
 intro j h0 hj;by_cases e:j=i
 ·subst e;rcases hs with hs|hs
  ·omega
  ·exact hs
 ·exact h.1 j h0 hj e
theorem UY.step(h:UY a i)(h0:0<i)(hi:i<a.length)(hb:Ax (dD a i) (dD a ((i-1)/2))=true):UY (swp a i ((i-1)/2)) ((i-1)/2):=by
 have hp:(i-1)/2<a.length:=by omega
 have hpi:(i-1)/2<i:=by omega
 obtain⟨p,CP⟩:∃p,p=(i-1)/2:=⟨_,rfl⟩;rw[←CP]at hp hpi hb⊢;have hle:=ug hb;refine⟨fun j j0 hj cS=>?_,fun c c0 hc TD CF=>?_⟩
 ·rw[gO]at hj;rw[lA _ _ _ _ hi hp,lA _ _ _ _ hi hp,if_neg cS];by_cases e1:j=i
  ·subst e1;rw[←CP,if_pos rfl,if_pos rfl];exact hle
  ·rw[if_neg e1];by_cases e2:(j-1)/2=p
   ·rw[if_pos e2];have:=h.1 j j0 hj e1;rw[e2]at this;exact sq hle this
   ·rw[if_neg e2];by_cases e3:(j-1)/2=i
    ·rw[if_pos e3];have:=h.2 j j0 hj e3 h0;rw[←CP]at this;exact this
    ·rw[if_neg e3];exact h.1 j j0 hj e1
 ·rw[gO]at hc;have hpp:(p-1)/2≠p∧(p-1)/2≠i:=by omega
  rw[lA _ _ _ _ hi hp,lA _ _ _ _ hi hp,if_neg hpp.1,if_neg hpp.2];have h1:=h.1 p CF hp (by omega);by_cases e1:c=p
  ·omega
  ·rw[if_neg e1];by_cases e2:c=i
   ·rw[if_pos e2];exact h1
   ·rw[if_neg e2];have:=h.1 c c0 hc e2;rw[TD]at this;exact sq h1 this
theorem UY.start(h:Hp a)(x:Nd):UY (a++[x]) a.length:=by
 have Wb:∀j,j<a.length→dD (a++[x]) j=dD a j:=fun j hj=>by simp[dD,List.getD,List.getElem?_append_left hj]
 refine⟨fun j j0 hj cS=>?_,fun c c0 hc TD h0=>?_⟩
 ·have:j<a.length:=by simp at hj;omega
  rw[Wb _ (by omega),Wb _ this];exact h j j0 this
 ·simp at hc;omega
def UZ(a:List Nd)(i:Nat):Prop:=(∀j,0<j→j<a.length→(j-1)/2≠i→so (dD a ((j-1)/2)) (dD a j))∧∀c,0<c→c<a.length→(c-1)/2=i→0<i→so (dD a ((i-1)/2)) (dD a c)
theorem UZ.done(h:UZ a i)(hs:∀c,0<c→c<a.length→(c-1)/2=i→so (dD a i) (dD a c)):Hp a:=by
 intro j h0 hj;by_cases e:(j-1)/2=i
 ·rw[e];exact hs j h0 hj e
 ·exact h.1 j h0 hj e
theorem UZ.step{k:Nat}(h:UZ a i)(hk:k<a.length)(Uo:k=2*i+1∨k=2*i+2)(Ug:∀c,0<c→c<a.length→(c-1)/2=i→so (dD a k) (dD a c))(hb:Ax (dD a k) (dD a i)=true):UZ (swp a i k) k:=by
 have hi:i<a.length:=by omega
 have hle:=ug hb;have hpk:(k-1)/2=i:=by omega
 refine⟨fun j j0 hj cS=>?_,fun c c0 hc TD Z5=>?_⟩
 ·rw[gO]at hj;rw[lA _ _ _ _ hi hk,lA _ _ _ _ hi hk,if_neg cS];by_cases e1:j=k
  ·subst e1;rw[hpk,if_pos rfl,if_pos rfl];exact hle
  ·rw[if_neg e1];by_cases e2:(j-1)/2=i
   ·rw[if_pos e2,if_neg (by omega)];exact Ug j j0 hj e2
   ·rw[if_neg e2];by_cases e3:j=i
    ·rw[if_pos e3];have:=h.2 k (by omega) hk hpk (by omega);rw[e3];exact this
    ·rw[if_neg e3];exact h.1 j j0 hj e2
 ·rw[gO]at hc;rw[lA _ _ _ _ hi hk,lA _ _ _ _ hi hk,hpk,if_neg (by omega),if_pos rfl,if_neg (by omega),if_neg (by omega)];have:=h.1 c c0 hc (by omega);rw[TD]at this;exact this
theorem UZ.start(h:Hp a)(cS:0<a.length):UZ ((swp a 0 (a.length-1)).take (a.length-1)) 0:=by
 have hl:((swp a 0 (a.length-1)).take (a.length-1)).length=a.length-1:=by simp
 have Wb:∀j,0<j→j<a.length-1→dD ((swp a 0 (a.length-1)).take (a.length-1)) j=dD a j:=fun j j0 hj=>by
  have:dD ((swp a 0 (a.length-1)).take (a.length-1)) j=dD (swp a 0 (a.length-1)) j:=by simp[dD,List.getD,List.getElem?_take_of_lt hj]
  rw[this,lA _ _ _ _ (by omega) (by omega),if_neg (by omega),if_neg (by omega)]
 refine⟨fun j j0 hj cS=>?_,fun c _ _ _ h0=>by omega⟩;rw[hl]at hj;rw[Wb j j0 hj,Wb _ (by omega) (by omega)];exact h j j0 (by omega)
theorem Ni(cS:0<a.length)(y:Nd):(y∈(swp a 0 (a.length-1)).take (a.length-1)→y∈a)∧(y∈a→y=dD a 0∨y∈(swp a 0 (a.length-1)).take (a.length-1)):=by
 refine⟨fun h=>(Ay cS (by omega) y).1 (List.mem_of_mem_take h),fun h=>?_⟩;have h:=(Ay (i:=0) (k:=a.length-1) cS (by omega) y).2 h;rw[yJ]at h;obtain⟨j,hj,e⟩:=h;rw[gO]at hj;by_cases hl:j=a.length-1
 ·left;rw[lA _ _ _ _ cS (by omega),if_pos hl]at e;exact e.symm
 ·right;rw[List.mem_iff_getElem?];refine⟨j,?_⟩;rw[List.getElem?_take_of_lt (by omega),E7 (by simpa using hj),e]
end Go.Ab.Nw
namespace Go.Ab.Nw
theorem Pb{S R A:Type}{body:S→(S→Option R)→Option R}(st:A→S)(I:A→Prop)(m:A→Nat)(fin:A→Option R→Prop)(h:∀a,I a→∀rec,(∃a',I a'∧m a'<m a∧body (st a) rec=rec (st a'))∨(∃r,fin a r∧body (st a) rec=r)):∀N a,I a→m a<N→∃a' r,I a'∧fin a' r∧cE body N (st a)=r:=by
 intro N;induction N with
 |zero=>intro a _ h;omega
 |succ N ih=>
  intro a hI hm;simp only[cE];rcases h a hI (cE body N)with⟨a',h1,h2,h3⟩|⟨r,h1,h2⟩
  ·obtain⟨a2,r,i1,i2,i3⟩:=ih a' h1 (by omega);exact⟨a2,r,i1,i2,by rw[h3];exact i3⟩
  ·exact⟨a,r,hI,h1,h2⟩
def up:Nat→List Nd→Nat→List Nd
 |0,a,_=>a
 |f+1,a,i=>if 0<i∧Ax (dD a i) (dD a ((i-1)/2))=true then up f (swp a i ((i-1)/2)) ((i-1)/2)else a
def push(a:List Nd)(x:Nd):List Nd:=up (a.length+1) (a++[x]) a.length
def DP(a:List Nd)(i:Nat):Nat:=if 2*i+1+1<a.length∧Ax (dD a (2*i+1+1)) (dD a (2*i+1))=true then 2*i+1+1 else 2*i+1
def down:Nat→List Nd→Nat→List Nd
 |0,a,_=>a
 |f+1,a,i=>if a.length≤2*i+1 then a else if Ax (dD a (DP a i)) (dD a i)=true then down f (swp a i (DP a i)) (DP a i)else a
def KX(a:List Nd):List Nd:=(swp a 0 (a.length-1)).take (a.length-1)
def rest(a:List Nd):List Nd:=down (a.length+1) (KX a) 0
theorem Wf:∀(f:Nat){a:List Nd}{i:Nat},i<f→i<a.length→UY a i→Hp (up f a i)∧(up f a i).length=a.length∧∀x,x∈up f a i↔x∈a
 |0,_,_,h,_,_=>by omega
 |f+1,a,i,hf,hi,h=>by
  unfold up;split
  ·rename_i hc;have hp:(i-1)/2<a.length:=by omega
   obtain⟨h1,h2,h3⟩:=Wf f (a:=swp a i ((i-1)/2)) (i:=(i-1)/2) (by omega) (by rw[gO];exact hp) (h.step hc.1 hi hc.2);exact⟨h1,by rw[h2,gO],fun x=>by rw[h3,Ay hi hp]⟩
  ·rename_i hc;refine⟨h.done hi ?_,rfl,fun x=>Iff.rfl⟩;by_cases h0:i=0
   ·exact .inl h0
   ·right;cases hb:Ax (dD a i) (dD a ((i-1)/2))with
    |false=>rfl
    |true=>exact absurd ⟨by omega,hb⟩ hc
variable{a:List Nd}
theorem U0(h:Hp a)(x:Nd):Hp (push a x)∧(push a x).length=a.length+1∧∀y,y∈push a x↔y∈a∨y=x:=by obtain⟨h1,h2,h3⟩:=Wf (a.length+1) (a:=a++[x]) (i:=a.length) (by omega) (by simp) (UY.start h x);exact⟨h1,by unfold push;rw[h2];simp,fun y=>by unfold push;rw[h3];simp⟩
theorem R4{i:Nat}(h:¬a.length≤2*i+1):DP a i<a.length∧(DP a i=2*i+1∨DP a i=2*i+2)∧∀c,0<c→c<a.length→(c-1)/2=i→so (dD a (DP a i)) (dD a c):=by
 unfold DP;split
 ·rename_i hc;refine⟨by omega,.inr rfl,fun c c0 hl hp=>?_⟩;have:c=2*i+1∨c=2*i+1+1:=by omega
  rcases this with rfl|rfl
  ·exact ug hc.2
  ·exact yI _
 ·rename_i hc;refine⟨by omega,.inl rfl,fun c c0 hl hp=>?_⟩;have:c=2*i+1∨c=2*i+1+1:=by omega
  rcases this with rfl|rfl
  ·exact yI _
  ·unfold so;cases hb:Ax (dD a (2*i+1+1)) (dD a (2*i+1))with
   |false=>rfl
   |true=>exact absurd ⟨hl,hb⟩ hc
theorem Nj:∀(f:Nat){a:List Nd}{i:Nat},a.length≤f+i→UZ a i→Hp (down f a i)∧(down f a i).length=a.length∧∀x,x∈down f a i↔x∈a
 |0,a,i,hf,h=>⟨h.done fun c c0 hc hp=>by omega,rfl,fun x=>Iff.rfl⟩
 |f+1,a,i,hf,h=>by
  unfold down;split
  ·exact⟨h.done fun c c0 hc hp=>by omega,rfl,fun x=>Iff.rfl⟩
  ·rename_i hl;obtain⟨k1,k2,k3⟩:=R4 hl;split
   ·rename_i hb;obtain⟨h1,h2,h3⟩:=Nj f (a:=swp a i (DP a i)) (i:=DP a i) (by rw[gO];omega) (h.step k1 k2 k3 hb);exact⟨h1,by rw[h2,gO],fun x=>by rw[h3,Ay (by omega) k1]⟩
   ·rename_i hb;refine⟨h.done fun c c0 hc hp=>sq ?_ (k3 c c0 hc hp),rfl,fun x=>Iff.rfl⟩;unfold so;exact Bool.not_eq_true _▸hb
theorem E8(h:Hp a)(cS:0<a.length):Hp (rest a)∧(rest a).length=a.length-1∧(∀y∈rest a,y∈a)∧(∀y∈a,y=dD a 0∨y∈rest a)∧∀y∈a,(dD a 0).len≤y.len:=by
 have hl:(KX a).length=a.length-1:=by simp[KX]
 obtain⟨h1,h2,h3⟩:=Nj (a.length+1) (a:=KX a) (i:=0) (by rw[hl];omega) (UZ.start h cS);refine⟨h1,by unfold rest;rw[h2,hl],fun y hy=>?_,fun y hy=>?_,fun y hy=>?_⟩
 ·exact(Ni cS y).1 ((h3 y).1 hy)
 ·rcases(Ni cS y).2 hy with h|h
  ·exact .inl h
  ·exact .inr ((h3 y).2 h)
 ·obtain⟨j,hj,rfl⟩:=yJ.1 hy;exact R2 (h.min j hj)
structure Ed where
 f:Nat
 t:Nat
 c:Nat
 deriving DecidableEq,Inhabited
def ew(E:List Ed)(i j c:Nat):Prop:=(⟨i,j,c⟩:Ed)∈E
abbrev Zj:=Option (Nat×Nat)
abbrev mb:=Nat→Zj
def uh(o:mb)(v:Nat)(l:Zj):mb:=fun u=>if u=v then l else o u
def sJ(E:List Ed)(o:mb):Nat:=E.countP fun y=>(o y.f).isNone
def CU(n:Nat)(o:mb):Nat:=(List.range n).countP fun v=>(o v).isSome
def E9(E:List Ed)(s v L:Nat):Prop:=(v=s∧L=0)∨js (ew E) s v L
structure DI(E:List Ed)(n s B:Nat)(o:mb)(pu:Nat)(H:List Nd):Prop where
 hp:Hp H
 node:∀x∈H,x.n<n
 real:∀x∈H,E9 E s x.n x.len
 kn:∀v L e,v<n→o v=some (L,e)→E9 E s v L∧∀L',E9 E s v L'→L≤L'
 front:∀u L e v c,u<n→o u=some (L,e)→(⟨u,v,c⟩:Ed)∈E→o v=none→∃x∈H,x.n=v∧x.len≤L+c
 src:o s=none→∃x∈H,x.n=s∧x.len=0
 R5:∀x∈H,x.len≤B*CU n o∧x.e≤CU n o
 X6:∀v L e,v<n→o v=some (L,e)→L≤B*n∧e≤n
 cnt:pu+sJ E o≤1+E.length
 X7:H.length≤pu
theorem Nk(n:Nat)(o:mb):CU n o≤n:=by unfold CU;have:=List.countP_le_length (p:=fun v=>(o v).isSome) (l:=List.range n);simpa using this
theorem zK{A:Type}[DecidableEq A]{p q:A→Bool}{v:A}:∀{l:List A},l.Nodup→v∈l→(∀u,u≠v→p u=q u)→p v=false→q v=true→l.countP q=l.countP p+1
 |a::l,hn,hv,hpq,h0,h1=>by
  rw[List.nodup_cons]at hn;rw[List.countP_cons,List.countP_cons];by_cases e:a=v
  ·subst e;have:l.countP q=l.countP p:=by apply List.countP_congr;intro u hu;rw[hpq u fun e=>by subst e;exact hn.1 hu]
   rw[this,h0,h1];simp
  ·have FZ:v∈l:=by rcases List.mem_cons.1 hv with h|h;exact absurd h.symm e;exact h
   rw[zK hn.2 FZ hpq h0 h1,hpq a e];omega
variable{o:mb}
theorem R6{n:Nat}{v:Nat}{l:Nat×Nat}(hv:v<n)(h:o v=none):CU n (uh o v (some l))=CU n o+1:=zK (p:=fun v=>(o v).isSome) (q:=fun u=>(uh o v (some l) u).isSome) (v:=v) List.nodup_range (List.mem_range.2 hv) (fun u hu=>by simp[uh,hu]) (by simp[h]) (by simp[uh])
theorem DI.least{E:List Ed}{n s B:Nat}{pu:Nat}{H:List Nd}(h:DI E n s B o pu H)(hE:∀y∈E,y.f<n∧y.t<n){v L:Nat}(hv:o v=none)(hw:E9 E s v L):∃x∈H,x.len≤L:=by
 cases hs:o s with
 |none=>obtain⟨x,h1,_,h2⟩:=h.src hs;exact⟨x,h1,by omega⟩
 |some l=>
  obtain⟨Ls,es⟩:=l;rcases hw with⟨rfl,_⟩|hw
  ·rw[hs]at hv;cases hv
  have key:∀{v L:Nat},js (ew E) s v L→o v=none→∃x∈H,x.len≤L:=by
   intro v L hw;induction hw with
   | @Cj j c hc=>intro hv;have pS:s<n:=(hE _ hc).1;obtain⟨x,h1,_,h2⟩:=h.front s Ls es j c pS hs hc hv;have:=(h.kn s Ls es pS hs).2 0 (.inl ⟨rfl,rfl⟩);exact⟨x,h1,by omega⟩
   | @snoc m j A c hA hc ih=>
    intro hv;cases hm:o m with
    |none=>obtain⟨x,h1,h2⟩:=ih hm;exact⟨x,h1,by omega⟩
    |some l=>obtain⟨Lm,em⟩:=l;have pS:m<n:=(hE _ hc).1;obtain⟨x,h1,_,h2⟩:=h.front m Lm em j c pS hm hc hv;have:=(h.kn m Lm em pS hm).2 A (.inr hA);exact⟨x,h1,by omega⟩
  exact key hw hv
theorem DI.skip{E:List Ed}{n s B:Nat}{pu:Nat}{H:List Nd}(h:DI E n s B o pu H)(cS:0<H.length)(qX:(o (dD H 0).n).isSome=true):DI E n s B o pu (rest H):=by
 obtain⟨r1,r2,r3,r4,r5⟩:=E8 h.hp cS;have other:∀x∈H,o x.n=none→x∈rest H:=fun x hx hn=>by
  rcases r4 x hx with e|e
  ·rw[e]at hn;rw[hn]at qX;cases qX
  ·exact e
 refine⟨r1,fun x hx=>h.node x (r3 x hx),fun x hx=>h.real x (r3 x hx),h.kn,fun u L e v c hu ho he hv=>?_,fun hs=>?_,fun x hx=>h.R5 x (r3 x hx),h.X6,h.cnt,by rw[r2];have:=h.X7;omega⟩
 ·obtain⟨x,x1,x2,x3⟩:=h.front u L e v c hu ho he hv;exact⟨x,other x x1 (by rw[x2];exact hv),x2,x3⟩
 ·obtain⟨x,x1,x2,x3⟩:=h.src hs;exact⟨x,other x x1 (by rw[x2];exact hs),x2,x3⟩
end Go.Ab.Nw
namespace Go.Ab.Nw
def lS(o:mb)(x:Nd):List Ed→Nat→List Nd→Nat×List Nd
 |[],pu,H=>(pu,H)
 |z::es,pu,H=>if(o z.t).isNone=true then lS o x es (pu+1) (push H ⟨z.t,x.len+z.c,x.e+1,pu⟩)else lS o x es pu H
theorem Ck{o:mb}{x:Nd}:∀{es:List Ed}{pu:Nat}{H:List Nd},Hp H→∃k,k≤es.length∧(lS o x es pu H).1=pu+k∧(lS o x es pu H).2.length=H.length+k∧Hp (lS o x es pu H).2∧(∀y∈(lS o x es pu H).2,y∈H∨∃z∈es,o z.t=none∧y.n=z.t∧y.len=x.len+z.c∧y.e=x.e+1)∧(∀y∈H,y∈(lS o x es pu H).2)∧∀z∈es,o z.t=none→∃y∈(lS o x es pu H).2,y.n=z.t∧y.len=x.len+z.c
 |[],pu,H,h=>⟨0,Nat.le_refl _,rfl,rfl,h,fun y hy=>.inl hy,fun y hy=>hy,fun z hz=>by cases hz⟩
 |z::es,pu,H,h=>by
  unfold lS;split
  ·rename_i hz;have hz:o z.t=none:=by simpa using hz
   obtain⟨p1,p2,p3⟩:=U0 h ⟨z.t,x.len+z.c,x.e+1,pu⟩;obtain⟨k,k1,k2,k3,k4,k5,k6,k7⟩:=Ck (o:=o) (x:=x) (es:=es) (pu:=pu+1) p1;refine⟨k+1,by simp;omega,by rw[k2];omega,by rw[k3,p2];omega,k4,fun y hy=>?_,fun y hy=>k6 y ((p3 y).2 (.inl hy)),fun z' Qw hn=>?_⟩
   ·rcases k5 y hy with h1|⟨z',h1,h2⟩
    ·rcases(p3 y).1 h1 with h1|rfl
     ·exact .inl h1
     ·exact .inr ⟨z,by simp,hz,rfl,rfl,rfl⟩
    ·exact .inr ⟨z',by simp[h1],h2⟩
   ·rcases List.mem_cons.1 Qw with rfl|Qw
    ·exact⟨_,k6 _ ((p3 _).2 (.inr rfl)),rfl,rfl⟩
    ·exact k7 z' Qw hn
  ·rename_i hz;obtain⟨k,k1,k2,k3,k4,k5,k6,k7⟩:=Ck (o:=o) (x:=x) (es:=es) (pu:=pu) h;refine⟨k,by simp;omega,k2,k3,k4,fun y hy=>?_,k6,fun z' Qw hn=>?_⟩
   ·rcases k5 y hy with h1|⟨z',h1,h2⟩
    ·exact .inl h1
    ·exact .inr ⟨z',by simp[h1],h2⟩
   ·rcases List.mem_cons.1 Qw with rfl|Qw
    ·rw[hn]at hz;exact absurd rfl hz
    ·exact k7 z' Qw hn
theorem R7(E:List Ed)(o:mb)(v:Nat)(l:Nat×Nat)(h:o v=none):sJ E o=sJ E (uh o v (some l))+(E.filter fun y=>y.f==v).length:=by
 unfold sJ;induction E with
 |nil=>rfl
 |cons y E ih=>
  rw[List.countP_cons,List.countP_cons,List.filter_cons,ih];by_cases e:y.f=v
  ·subst e;simp[uh,h];omega
  ·simp[uh,e];omega
variable{E:List Ed}
theorem DI.settle{n s B:Nat}{o:mb}{pu:Nat}{H:List Nd}(h:DI E n s B o pu H)(hE:∀y∈E,y.f<n∧y.t<n∧y.c≤B)(cS:0<H.length)(yj:o (dD H 0).n=none):DI E n s B (uh o (dD H 0).n (some ((dD H 0).len,(dD H 0).e))) (lS (uh o (dD H 0).n (some ((dD H 0).len,(dD H 0).e))) (dD H 0) (E.filter fun y=>y.f==(dD H 0).n) pu (rest H)).1 (lS (uh o (dD H 0).n (some ((dD H 0).len,(dD H 0).e))) (dD H 0) (E.filter fun y=>y.f==(dD H 0).n) pu (rest H)).2∧(lS (uh o (dD H 0).n (some ((dD H 0).len,(dD H 0).e))) (dD H 0) (E.filter fun y=>y.f==(dD H 0).n) pu (rest H)).2.length+sJ E (uh o (dD H 0).n (some ((dD H 0).len,(dD H 0).e)))<H.length+sJ E o:=by
 obtain⟨r1,r2,r3,r4,r5⟩:=E8 h.hp cS;obtain⟨x,hx⟩:∃x,x=dD H 0:=⟨_,rfl⟩;rw[←hx]at yj r4 r5⊢;have hxm:x∈H:=yJ.2 ⟨0,cS,hx.symm⟩;have hxn:=h.node x hxm;obtain⟨o1,Zb⟩:∃o1,o1=uh o x.n (some (x.len,x.e)):=⟨_,rfl⟩;rw[←Zb];have oo:∀v,o1 v=if v=x.n then some (x.len,x.e)else o v:=fun v=>by rw[Zb];rfl
 have on:∀v,o1 v=none→v≠x.n∧o v=none:=fun v hv=>by
  rw[oo]at hv;split at hv
  ·cases hv
  ·exact⟨‹_›,hv⟩
 obtain⟨k,k1,k2,k3,k4,k5,k6,k7⟩:=Ck (o:=o1) (x:=x) (es:=E.filter fun y=>y.f==x.n) (pu:=pu) r1;have hs:CU n o1=CU n o+1:=by rw[Zb];exact R6 hxn yj
 have OA:sJ E o=sJ E o1+(E.filter fun y=>y.f==x.n).length:=by rw[Zb];exact R7 E o x.n _ yj
 have mem:∀z,z∈(E.filter fun y=>y.f==x.n)↔z∈E∧z.f=x.n:=fun z=>by simp[List.mem_filter]
 have go:∀z,z∈E→z.f=x.n→js (ew E) s z.t (x.len+z.c):=fun z hz hf=>by
  have he:ew E x.n z.t z.c:=by
   unfold ew;have:(⟨x.n,z.t,z.c⟩:Ed)=z:=by rw[←hf]
   rw[this];exact hz
  rcases h.real x hxm with⟨e1,e2⟩|hw
  ·rw[e2,Nat.zero_add];rw[e1]at he;exact .Cj he
  ·exact .snoc hw he
 have other:∀y∈H,y.n≠x.n→y∈(lS o1 x (E.filter fun y=>y.f==x.n) pu (rest H)).2:=fun y hy hn=>by
  rcases r4 y hy with e|e
  ·exact absurd (by rw[e]) hn
  ·exact k6 y e
 refine⟨⟨k4,fun y hy=>?_,fun y hy=>?_,fun v L e hv ho=>?_,fun u L e v c hu ho he hv=>?_,fun hs'=>?_,fun y hy=>?_,fun v L e hv ho=>?_,?_,?_⟩,?_⟩
 ·rcases k5 y hy with h1|⟨z,z1,z2,z3,_⟩
  ·exact h.node y (r3 y h1)
  ·rw[z3];exact(hE z ((mem z).1 z1).1).2.1
 ·rcases k5 y hy with h1|⟨z,z1,z2,z3,z4,_⟩
  ·exact h.real y (r3 y h1)
  ·rw[z3,z4];exact .inr (go z ((mem z).1 z1).1 ((mem z).1 z1).2)
 ·rw[oo]at ho;split at ho
  ·rename_i e';simp only[Option.some.injEq,Prod.mk.injEq]at ho;obtain⟨rfl,rfl⟩:=ho;subst e';refine⟨h.real x hxm,fun L' hL=>?_⟩;obtain⟨y,y1,y2⟩:=h.least (fun y hy=>⟨(hE y hy).1,(hE y hy).2.1⟩) yj hL;exact Nat.le_trans (r5 y y1) y2
  ·exact h.kn v L e hv ho
 ·obtain⟨v1,v2⟩:=on v hv;rw[oo]at ho;split at ho
  ·rename_i e';simp only[Option.some.injEq,Prod.mk.injEq]at ho;obtain⟨rfl,rfl⟩:=ho;obtain⟨y,y1,y2,y3⟩:=k7 ⟨u,v,c⟩ ((mem _).2 ⟨he,e'⟩) hv;exact⟨y,y1,y2,by rw[y3];exact Nat.le_refl _⟩
  ·obtain⟨y,y1,y2,y3⟩:=h.front u L e v c hu ho he v2;exact⟨y,other y y1 (by rw[y2];exact v1),y2,y3⟩
 ·obtain⟨v1,v2⟩:=on s hs';obtain⟨y,y1,y2,y3⟩:=h.src v2;exact⟨y,other y y1 (by rw[y2];exact v1),y2,y3⟩
 ·rw[hs,Nat.mul_succ];rcases k5 y hy with h1|⟨z,z1,z2,z3,z4,z5⟩
  ·have:=h.R5 y (r3 y h1);omega
  ·have:=h.R5 x hxm;have:=(hE z ((mem z).1 z1).1).2.2;omega
 ·rw[oo]at ho;split at ho
  ·simp only[Option.some.injEq,Prod.mk.injEq]at ho;obtain⟨rfl,rfl⟩:=ho;have h1:=h.R5 x hxm;have h2:=Nk n o;have h3:B*CU n o≤B*n:=Nat.mul_le_mul_left _ h2;omega
  ·exact h.X6 v L e hv ho
 ·have:=h.cnt;omega
 ·have:=h.X7;omega
 ·rw[k3,r2];omega
theorem DI.start{n s B:Nat}(hs:s<n):DI E n s B (fun _=>none) 1 [⟨s,0,0,0⟩]:=by
 refine⟨fun j j0 hj=>by simp at hj;omega,fun x hx=>?_,fun x hx=>?_,fun v L e _ h=>(by cases h),fun u L e v c _ h=>(by cases h),fun _=>⟨⟨s,0,0,0⟩,by simp,rfl,rfl⟩,fun x hx=>?_,fun v L e _ h=>(by cases h),?_,by simp⟩
 ·simp at hx;subst hx;exact hs
 ·simp at hx;subst hx;exact .inl ⟨rfl,rfl⟩
 ·simp at hx;subst hx;simp
 ·have:sJ E (fun _=>none)=E.length:=by simp[sJ]
  omega
theorem DI.done{n s B:Nat}{o:mb}{pu:Nat}(h:DI E n s B o pu [])(hE:∀y∈E,y.f<n∧y.t<n∧y.c≤B){v:Nat}(hv:v<n):match o v with
 |some (L,_)=>L≤B*n∧E9 E s v L∧∀L',E9 E s v L'→L≤L'
 |none=>∀L',¬E9 E s v L':=by
 cases ho:o v with
 |some l=>obtain⟨L,e⟩:=l;exact⟨(h.X6 v L e hv ho).1,h.kn v L e hv ho⟩
 |none=>
  intro L' hL
  obtain⟨x,hx,_⟩:=h.least (fun y hy=>⟨(hE y hy).1,(hE y hy).2.1⟩) ho hL
  cases hx
end Go.Ab.Nw
namespace Go.Ab.Nw
set_option maxRecDepth 100000
set_option linter.unusedVariables false
set_option linter.unusedSimpArgs false
def Nd.pv(x:Nd):PV:=.agg [.int .i64 x.n,.int .i64 x.len,.int .i64 x.e,.int .i64 x.num]
abbrev lR(a:List Nd):List PV:=a.map Nd.pv
theorem nd0(x:Nd):cell x.pv 0=.int .i64 x.n:=rfl
theorem nd1(x:Nd):cell x.pv 1=.int .i64 x.len:=rfl
theorem nd2(x:Nd):cell x.pv 2=.int .i64 x.e:=rfl
theorem nd3(x:Nd):cell x.pv 3=.int .i64 x.num:=rfl
theorem ndE(x:Nd):PV.agg [cell x.pv 0,cell x.pv 1,cell x.pv 2,cell x.pv 3]=x.pv:=rfl
theorem eI{a:List Nd}{i:Nat}(h:i<a.length):(lR a)[i]?=some (dD a i).pv:=by rw[List.getElem?_map,E7 h];rfl
theorem aaK(a b c:PV):cell (.agg [a,b,c]) 0=a:=rfl
theorem X8(a b c:PV):cell (.agg [a,b,c]) 1=b:=rfl
theorem aaL(a b c:PV):cell (.agg [a,b,c]) 2=c:=rfl
theorem ag3(a b c:PV):asAgg 3 (.agg [a,b,c])=some ():=rfl
theorem U1(a b:Nd):dZ [.agg [cell a.pv 0,cell a.pv 1,cell a.pv 2],.agg [cell b.pv 0,cell b.pv 1,cell b.pv 2]]=some (.bool (decide (a.len<b.len∨(a.len=b.len∧a.e<b.e)))):=by
 simp only[dZ,qD,ag3,aaK,X8,aaL,nd0,nd1,nd2,if_true,U,asInt];by_cases h1:a.len<b.len
 ·simp[h1]
 ·by_cases h2:a.len=b.len
  ·simp[h2]
  ·have:((a.len:Int)==(b.len:Int))=false:=by rw[beq_eq_false_iff_ne];omega
   simp[h1,h2,this]
theorem rD(a:List Nd)(pu:Nat)(i k:Nat)(hi:i<a.length)(hk:k<a.length):aC [.rp [.fn 123 [],.rs 4 (lR a),.int .i64 pu],.int .i64 i,.int .i64 k]=some (.bool (Ax (dD a i) (dD a k))):=by
 have e0:ab 4 (PV.rs 4 (lR a))=some (lR a):=by simp[ab]
 simp only[aC,ef,X8,aaL,e0,U,asInt,if_true,ay,eI hi,eI hk,U1,asBool,nd3];generalize dD a i=x;generalize dD a k=y;unfold Ax;by_cases h1:x.len<y.len∨(x.len=y.len∧x.e<y.e)
 ·have:(x.len<y.len∨(x.len=y.len∧(x.e<y.e∨(x.e=y.e∧x.num<y.num)))):=by omega
  simp[h1,this]
 ·by_cases h2:y.len<x.len∨(y.len=x.len∧y.e<x.e)
  ·have:¬(x.len<y.len∨(x.len=y.len∧(x.e<y.e∨(x.e=y.e∧x.num<y.num)))):=by omega
   simp[h1,h2,this]
  ·have:(x.len<y.len∨(x.len=y.len∧(x.e<y.e∨(x.e=y.e∧x.num<y.num))))↔x.num<y.num:=by omega
   simp[h1,h2,this]
theorem half(i:Nat)(h:0<i)(hi:i<4611686018427387904):IntKind.i64.wrap ((IntKind.i64.wrap ((i:Int)-1)).tdiv 2)=(((i-1)/2:Nat):Int):=by
 have e1:IntKind.i64.wrap ((i:Int)-1)=((i-1:Nat):Int):=by rw[fx (by omega) (by omega)];omega
 have e2:((i-1:Nat):Int).tdiv 2=(((i-1)/2:Nat):Int):=rfl;rw[e1,e2,fx (by omega) (by omega)]
theorem Az{i:Nat}{es:List PV}(h:i<es.length):af (i:Int) es.length:=⟨by omega,by omega⟩
theorem Fa(a:List Nd)(i k:Nat):((lR a).set i (dD a k).pv).set k (dD a i).pv=lR (swp a i k):=by simp[swp,List.map_set]
theorem Nl(pj:Zk→Option PV)(t1:PV)(es:List PV)(ln ix:Int)(pu:Nat)(out:List PV)(x0 x1 x2:PV):∀(f N:Nat)(a:List Nd)(i:Nat),i<f→f≤N→i<a.length→a.length<4611686018427387904→cE (ko pj) N ((i:Int),t1,es,ln,ix,(pu:Int),out,x0,x1,x2,lR a,())=pj (t1,es,ln,IntKind.i64.wrap (ix+1),out,(pu:Int),x0,x1,x2,lR (up f a i),())
 |0,_,_,_,h,_,_,_=>by omega
 |f+1,0,_,_,_,h,_,_=>by omega
 |f+1,N+1,a,i,hf,hN,hi,ha=>by
  simp only[cE];unfold ko up;by_cases h0:0<i
  ·have hp:(i-1)/2<a.length:=by omega
   have hg:decide ((i:Int)>0)=true:=by simp;omega
   simp only[hg,cond_true,half i h0 (by omega),rD a pu i ((i-1)/2) hi hp,U,asBool];by_cases hb:Ax (dD a i) (dD a ((i-1)/2))=true
   ·have hl1:i<(lR a).length:=by simpa using hi
    have hl2:(i-1)/2<(lR a).length:=by simpa using hp
    have hl3:(i-1)/2<((lR a).set i (dD a ((i-1)/2)).pv).length:=by simpa using hp
    have DQ:((lR a).set i (dD a ((i-1)/2)).pv)[(i-1)/2]?=some (dD a ((i-1)/2)).pv:=by rw[List.getElem?_set];rw[if_neg (by omega),eI hp]
    simp only[hb,if_true,if_pos (Az hl1),if_pos (Az hl2),if_pos (Az hl3),Int.toNat_natCast,eI hi,eI hp,U,ndE,DQ,Fa,h0,and_self];exact Nl pj t1 es ln ix pu out x0 x1 x2 f N (swp a i ((i-1)/2)) ((i-1)/2) (by omega) (by omega) (by rw[gO];exact hp) (by rw[gO];exact ha)
   ·simp only[hb,Bool.false_eq_true,if_false,and_false]
  ·have hg:decide ((i:Int)>0)=false:=by simp;omega
   simp only[hg,cond_false,U,Bool.false_eq_true,if_false,h0,false_and]
end Go.Ab.Nw
namespace Go.Ab.Nw
set_option maxRecDepth 100000
set_option linter.unusedVariables false
set_option linter.unusedSimpArgs false
def pZ(v:Nat):Zj→PV
 |none=>.agg [.int .i64 v,.int .i64 (-1),.int .i64 (-1)]
 |some (L,e)=>.agg [.int .i64 v,.int .i64 (L:Int),.int .i64 (e:Int)]
def dL(n:Nat)(o:mb):List PV:=(List.range n).map fun v=>pZ v (o v)
def Ed.pv(y:Ed):PV:=.agg [.int .i64 y.f,.int .i64 y.t,.int .i64 y.c]
theorem nT(n:Nat)(o:mb):(dL n o).length=n:=by simp[dL]
theorem nU{n v:Nat}(o:mb)(h:v<n):(dL n o)[v]?=some (pZ v (o v)):=by simp[dL,h]
theorem Pc{n v:Nat}(o:mb)(l:Nat×Nat)(h:v<n):(dL n o).set v (pZ v (some l))=dL n (uh o v (some l)):=by
 apply List.ext_getElem?;intro i;rw[List.getElem?_set];by_cases e:v=i
 ·subst e;rw[if_pos rfl,if_pos (by rw[nT];exact h),nU _ h];simp[uh]
 ·rw[if_neg e];by_cases hi:i<n
  ·rw[nU _ hi,nU _ hi];simp[uh,Ne.symm e]
  ·rw[List.getElem?_eq_none (by rw[nT];omega),List.getElem?_eq_none (by rw[nT];omega)]
theorem aaM(v:Nat)(l:Zj):∃z:Int,asInt .i64 (cell (pZ v l) 2)=some z∧(decide (z<0)=l.isNone)∧decide (z≥0)=l.isSome:=by
 cases l with
 |none=>exact⟨-1,rfl,rfl,rfl⟩
 |some p=>obtain⟨L,e⟩:=p;exact⟨e,rfl,by simp,by simp⟩
theorem ed1(y:Ed):cell y.pv 1=.int .i64 y.t:=rfl
theorem ed2(y:Ed):cell y.pv 2=.int .i64 y.c:=rfl
theorem CH(n:Int):asInt .i64 (.int .i64 n)=some n:=by simp[asInt]
theorem DR(df:PV×List PV×Int×List PV×Unit→Option PV)(t1:PV)(n:Nat)(o:mb)(x:Nd)(es:List Ed)(ht:∀z∈es,z.t<n)(hn:n<4294967296)(hx:x.len<4611686018427387904)(hxe:x.e<4611686018427387904)(hc:∀z∈es,z.c<4611686018427387904)(CG:es.length<4611686018427387904):∀(m N k pu:Nat)(H:List Nd),m+k=es.length→m<N→pu+m<4294967296→H.length+m<4294967296→cE (c9 ca df) N (t1,es.map Ed.pv,((es.length:Nat):Int),(k:Int),dL n o,(pu:Int),.int .i64 x.n,.int .i64 x.len,.int .i64 x.e,lR H,())=df (t1,dL n o,((lS o x (es.drop k) pu H).1:Int),lR (lS o x (es.drop k) pu H).2,())
 |_,0,_,_,_,_,h,_,_=>by omega
 |0,N+1,k,pu,H,hk,hN,hpu,hH=>by
  simp only[cE];unfold c9;dsimp only;have hg:decide ((k:Int)<((es.length:Nat):Int))=false:=by simp;omega
  rw[hg,List.drop_eq_nil_of_le (by omega)];rfl
 |m+1,N+1,k,pu,H,hk,hN,hpu,hH=>by
  have ih:=DR df t1 n o x es ht hn hx hxe hc CG m N (k+1);simp only[cE];generalize cE (c9 ca df) N=rec at ih⊢;unfold c9;dsimp only;have kH:k<es.length:=by omega
  have hg:decide ((k:Int)<((es.length:Nat):Int))=true:=by simp;omega
  obtain⟨z,hz⟩:∃z,es[k]?=some z:=⟨_,List.getElem?_eq_getElem kH⟩;have hzm:z∈es:=List.mem_of_getElem? hz;have hzt:=ht z hzm;have CN:(es.map Ed.pv)[k]?=some z.pv:=by rw[List.getElem?_map,hz];rfl
  have aaN:es.drop k=z::es.drop (k+1):=by rw[List.drop_eq_getElem_cons kH];have:=List.getElem?_eq_getElem kH;rw[hz]at this;rw[Option.some.inj this]
  obtain⟨w,w1,w2,w3⟩:=aaM z.t (o z.t);have pS:af (z.t:Int) (dL n o).length:=Az (by rw[nT];exact hzt);rw[aaN,lS];simp only[hg,if_true,ay,CN,U,ed1,ed2,CH,if_pos pS,Int.toNat_natCast,nU o hzt,w1,w2];by_cases yj:(o z.t).isNone=true
  ·have e1:IntKind.i64.wrap ((x.len:Int)+(z.c:Int))=((x.len+z.c:Nat):Int):=by have:=hc z hzm;rw[fx (by omega) (by omega)];omega
   have e2:lR H++[PV.agg [.int .i64 z.t,.int .i64 ((x.len+z.c:Nat):Int),.int .i64 ((x.e+1:Nat):Int),.int .i64 pu]]=lR (H++[⟨z.t,x.len+z.c,x.e+1,pu⟩]):=by simp[lR,Nd.pv]
   have e3:(lR (H++[⟨z.t,x.len+z.c,x.e+1,pu⟩])).length=H.length+1:=by simp
   have e4:IntKind.i64.wrap (((H.length+1:Nat):Int)-1)=(H.length:Int):=by rw[fx (by omega) (by omega)];omega
   have ep:(H.length+1)*32≤aa∧0<32:=by unfold aa;omega
   simp only[yj,if_true,e1,al (show x.e<9223372036854775807 by omega),e2,e3,e4,if_pos ep,al (show pu<9223372036854775807 by omega),kO];refine(Nl rec t1 (es.map Ed.pv) ((es.length:Nat):Int) (k:Int) (pu+1) (dL n o) _ _ _ (H.length+1) rounds (H++[⟨z.t,x.len+z.c,x.e+1,pu⟩]) H.length (by omega) (by unfold rounds;omega) (by simp) (by simp;omega)).trans ?_;rw[al (by omega)];rw[show up (H.length+1) (H++[⟨z.t,x.len+z.c,x.e+1,pu⟩]) H.length=push H ⟨z.t,x.len+z.c,x.e+1,pu⟩from rfl];refine ih (pu+1) _ (by omega) (by omega) (by omega) ?_;have:(push H ⟨z.t,x.len+z.c,x.e+1,pu⟩).length=H.length+1:=by
    unfold push;have key:∀(f:Nat)(a:List Nd)(i:Nat),(up f a i).length=a.length:=by
     intro f;induction f with
     |zero=>intro a i;rfl
     |succ f ih=>
      intro a i;unfold up;split
      ·rw[ih,gO]
      ·rfl
    rw[key];simp
   omega
  ·simp only[yj,Bool.false_eq_true,if_false,al (show k<9223372036854775807 by omega)];exact ih pu H (by omega) (by omega) (by omega) (by omega)
end Go.Ab.Nw
namespace Go.Ab.Nw
set_option maxRecDepth 100000
set_option linter.unusedVariables false
set_option linter.unusedSimpArgs false
structure Gr(E:List Ed)(n:Nat)(ks vs:List PV):Prop where
 small:n<4294967296
 len:E.length<1073741824
 node:∀y∈E,y.f<n∧y.t<n∧y.c≤1073741824
 look:∀v:Nat,v<n→ab 3 (dK (.int .i64 v) (.rs 0 []) (ks.zip vs))=some ((E.filter fun y=>y.f==v).map Ed.pv)
section
variable {E:List Ed} {n:Nat} {ks vs:List PV}
def labelled(o:mb)(x:Nd):mb:=uh o x.n (some (x.len,x.e))
def KR(df:PV×List PV×Int×List PV×Unit→Option PV)(E:List Ed)(n:Nat)(ks vs:List PV)(o:mb)(x:Nd)(pu:Nat)(H:List Nd):Option PV:=
 if(o x.n).isSome=true then df (.rm 3 ks vs,dL n o,(pu:Int),lR H,())
 else df (.rm 3 ks vs,dL n (labelled o x),((lS (labelled o x) x (E.filter fun y=>y.f==x.n) pu H).1:Int),lR (lS (labelled o x) x (E.filter fun y=>y.f==x.n) pu H).2,())
structure Sm(n:Nat)(E:List Ed)(x:Nd)(pu:Nat)(H:List Nd):Prop where
 node:x.n<n
 len:x.len<4611686018427387904
 e:x.e<4611686018427387904
 pu:pu≤1073741824
 H:H.length≤1073741824
theorem u9(hG:Gr E n ks vs)(df:PV×List PV×Int×List PV×Unit→Option PV)(o:mb)(x:Nd)(pu:Nat)(H:List Nd)(hS:Sm n E x pu H)(A:Int→PV→Int→Option PV):((asInt .i64 (.int .i64 x.n)).bind fun n23=>if af n23 (dL n o).length then(dL n o)[n23.toNat]?.bind fun e24=>(asInt .i64 (cell e24 2)).bind fun n25=>if decide (n25≥0)=true then df (.rm 3 ks vs,dL n o,(pu:Int),lR H,())else(asInt .i64 (.int .i64 x.n)).bind fun n26=>if af n26 (dL n o).length then(dL n o)[n26.toNat]?.bind fun TE=>(asInt .i64 (.int .i64 x.n)).bind fun n28=>dP 3 (.rm 3 ks vs) (A n26 TE n28) fun X9 Fb=>(ab 3 (dK (.int .i64 n28) (.rs 0 []) (X9.zip Fb))).bind fun R8=>ca.run (c9 ca df) (.rm 3 ks vs,R8,(R8.length:Int),0,(dL n o).set n26.toNat (.agg [.int .i64 x.n,.int .i64 x.len,.int .i64 x.e]),(pu:Int),.int .i64 x.n,.int .i64 x.len,.int .i64 x.e,lR H,())else none else none)=KR df E n ks vs o x pu H:=by
 have pS:af (x.n:Int) (dL n o).length:=Az (by rw[nT];exact hS.node)
 obtain⟨w,w1,w2,w3⟩:=aaM x.n (o x.n)
 simp only[CH,U,if_pos pS,Int.toNat_natCast,nU o hS.node,w1,w3,dP,if_true,hG.look x.n hS.node,kO]
 unfold KR
 by_cases hs:(o x.n).isSome=true
 ·simp only[hs,if_true]
 ·simp only[hs,Bool.false_eq_true,if_false];have e1:(dL n o).set x.n (.agg [.int .i64 x.n,.int .i64 x.len,.int .i64 x.e])=dL n (labelled o x):=Pc o (x.len,x.e) hS.node;rw[e1];have hl:(E.filter fun y=>y.f==x.n).length≤E.length:=List.length_filter_le ..;have bO:∀z∈E.filter (fun y=>y.f==x.n),z∈E:=fun z hz=>(List.mem_filter.1 hz).1;have h1:=hG.len;have h2:=hS.pu;have h3:=hS.H;have:=DR df (.rm 3 ks vs) n (labelled o x) x (E.filter fun y=>y.f==x.n) (fun z hz=>(hG.node z (bO z hz)).2.1) hG.small hS.len hS.e (fun z hz=>by have:=(hG.node z (bO z hz)).2.2;omega) (by omega) (E.filter fun y=>y.f==x.n).length rounds 0 pu H (by omega) (by unfold rounds;omega) (by omega) (by omega);rw[List.drop_zero]at this;simpa using this
theorem R9{a:List Nd}{i:Nat}(h:2*i+1+1<a.length∧Ax (dD a (2*i+1+1)) (dD a (2*i+1))=true):DP a i=2*i+1+1:=if_pos h
theorem Pd{a:List Nd}{i:Nat}(h:¬(2*i+1+1<a.length∧Ax (dD a (2*i+1+1)) (dD a (2*i+1))=true)):DP a i=2*i+1:=if_neg h
theorem DS(hG:Gr E n ks vs)(df:PV×List PV×Int×List PV×Unit→Option PV)(o:mb)(x:Nd)(pu:Nat)(z1 z2 z3:Int):∀(f N:Nat)(a:List Nd)(i:Nat),a.length≤f+i→f<N→i<4294967296→Sm n E x pu a→cE (dW ca df) N ((i:Int),.rm 3 ks vs,(pu:Int),z1,z2,z3,.int .i64 x.n,.int .i64 x.len,.int .i64 x.e,dL n o,lR a,())=KR df E n ks vs o x pu (down f a i)
 |_,0,_,_,_,h,_,_=>by omega
 |0,N+1,a,i,hf,hN,hi,hS=>by
  simp only[cE];generalize cE (dW ca df) N=rec;unfold dW down;dsimp only;have e1:IntKind.i64.wrap (IntKind.i64.wrap (2*(i:Int))+1)=((2*i+1:Nat):Int):=by rw[fx (x:=2*(i:Int)) (by omega) (by omega),fx (by omega) (by omega)];omega
  have hg:decide (((2*i+1:Nat):Int)≥((lR a).length:Int))=true:=by simp;omega
  rw[e1,if_pos hg];exact u9 hG df o x pu a hS _
 |f+1,N+1,a,i,hf,hN,hi,hS=>by
  have ih:=DS hG df o x pu z1 z2 z3 f N;simp only[cE];generalize cE (dW ca df) N=rec at ih⊢;have e1:IntKind.i64.wrap (IntKind.i64.wrap (2*(i:Int))+1)=((2*i+1:Nat):Int):=by rw[fx (x:=2*(i:Int)) (by omega) (by omega),fx (by omega) (by omega)];omega
  have e2:IntKind.i64.wrap (((2*i+1:Nat):Int)+1)=((2*i+1+1:Nat):Int):=al (by omega);unfold dW down;dsimp only;rw[e1,e2];by_cases hl:a.length≤2*i+1
  ·have hg:decide (((2*i+1:Nat):Int)≥((lR a).length:Int))=true:=by simp;omega
   rw[if_pos hg,if_pos hl];exact u9 hG df o x pu a hS _
  ·have hg:¬decide (((2*i+1:Nat):Int)≥((lR a).length:Int))=true:=by simp;omega
   rw[if_neg hg,if_neg hl];have hlen:=hS.H;have mW:i<a.length:=by omega
   have XC:i<(lR a).length:=by simpa using mW
   obtain⟨k1,k2,_⟩:=R4 hl;have Om:DP a i<(lR a).length:=by simpa using k1
   have Zg:DP a i<((lR a).set i (dD a (DP a i)).pv).length:=by simpa using k1
   have DQ:((lR a).set i (dD a (DP a i)).pv)[DP a i]?=some (dD a (DP a i)).pv:=by rw[List.getElem?_set,if_neg (by omega),eI k1]
   have fin:=ih (swp a i (DP a i)) (DP a i) (by rw[gO];omega) (by omega) (by omega) ⟨hS.node,hS.len,hS.e,hS.pu,by rw[gO];exact hS.H⟩;by_cases hc:2*i+1+1<a.length∧Ax (dD a (2*i+1+1)) (dD a (2*i+1))=true
   ·have hk:=R9 hc;have hd:decide (((2*i+1+1:Nat):Int)<((lR a).length:Int))=true:=by simp;omega
    rw[hd];rw[hk]at Om Zg DQ fin k1⊢;simp only[cond_true,rD a pu (2*i+1+1) (2*i+1) (by omega) (by omega),hc.2,U,asBool,if_true,rD a pu (2*i+1+1) i k1 mW];by_cases hb:Ax (dD a (2*i+1+1)) (dD a i)=true
    ·rw[if_pos hb]at*;simp only[hb,Bool.not_true,Bool.false_eq_true,if_false,if_pos (Az XC),if_pos (Az Om),if_pos (Az Zg),Int.toNat_natCast,eI mW,eI k1,U,ndE,DQ,Fa];exact fin
    ·rw[if_neg hb];have fQ:(!Ax (dD a (2*i+1+1)) (dD a i))=true:=by simpa using hb
     rw[if_pos fQ];exact u9 hG df o x pu a hS _
   ·have hk:=Pd hc;have hd:(bif decide (((2*i+1+1:Nat):Int)<((lR a).length:Int))then(aC [.rp [.fn 123 [],.rs 4 (lR a),.int .i64 (pu:Int)],.int .i64 ((2*i+1+1:Nat):Int),.int .i64 ((2*i+1:Nat):Int)]).bind fun r53=>(asBool r53).bind fun b54=>some b54 else some false)=some false:=by
     by_cases h2:2*i+1+1<a.length
     ·have hd:decide (((2*i+1+1:Nat):Int)<((lR a).length:Int))=true:=by simp;omega
      have hb:Ax (dD a (2*i+1+1)) (dD a (2*i+1))=false:=by
       cases hb:Ax (dD a (2*i+1+1)) (dD a (2*i+1))with
       |false=>rfl
       |true=>exact absurd ⟨h2,hb⟩ hc
      rw[hd,cond_true,rD a pu (2*i+1+1) (2*i+1) h2 (by omega),U,hb];rfl
     ·have hd:decide (((2*i+1+1:Nat):Int)<((lR a).length:Int))=false:=by simp;omega
      rw[hd];rfl
    rw[hd];rw[hk]at Om Zg DQ fin k1⊢;simp only[U,asBool,Bool.false_eq_true,if_false,rD a pu (2*i+1) i k1 mW];by_cases hb:Ax (dD a (2*i+1)) (dD a i)=true
    ·rw[if_pos hb]at*;simp only[hb,Bool.not_true,Bool.false_eq_true,if_false,if_pos (Az XC),if_pos (Az Om),if_pos (Az Zg),Int.toNat_natCast,eI mW,eI k1,U,ndE,DQ,Fa];exact fin
    ·rw[if_neg hb];have fQ:(!Ax (dD a (2*i+1)) (dD a i))=true:=by simpa using hb
     rw[if_pos fQ];exact u9 hG df o x pu a hS _
end
end Go.Ab.Nw
namespace Go.Ab.Nw
set_option maxRecDepth 100000
set_option linter.unusedVariables false
set_option linter.unusedSimpArgs false
section
variable {E:List Ed} {n:Nat} {ks vs:List PV}
theorem Pe(hG:Gr E n ks vs)(df:PV×List PV×Int×List PV×Unit→Option PV)(o:mb)(pu:Nat)(H:List Nd)(hS:∀x∈H,Sm n E x pu H):dX ca (.rm 3 ks vs,dL n o,(pu:Int),lR H,()) df=if H.length=0 then some (.rs 3 (dL n o))else KR df E n ks vs o (dD H 0) pu (rest H):=by
 unfold dX;dsimp only;by_cases h0:H.length=0
 ·have hg:(((lR H).length:Int)==0)=true:=by rw[List.length_map,h0];rfl
  rw[if_pos hg,if_pos h0]
 ·have hg:¬(((lR H).length:Int)==0)=true:=by simp;intro h;exact h0 (by rw[h];rfl)
  rw[if_neg hg,if_neg h0];have hx:dD H 0∈H:=yJ.2 ⟨0,by omega,rfl⟩;have Xo:=hS _ hx;have hH:=Xo.H;have hl:((lR H).length:Int)=(H.length:Int):=by simp
  have e1:IntKind.i64.wrap ((H.length:Int)-1)=((H.length-1:Nat):Int):=by rw[fx (by omega) (by omega)];omega
  have i0:af (0:Int) (lR H).length:=Az (i:=0) (by simp;omega);have hl1:H.length-1<(lR H).length:=by simp;omega
  have hl3:H.length-1<((lR H).set 0 (dD H (H.length-1)).pv).length:=by simp;omega
  have g0:(lR H)[0]?=some (dD H 0).pv:=eI (by omega);have gl:(lR H)[H.length-1]?=some (dD H (H.length-1)).pv:=eI (by omega);have g3:∃q,((lR H).set 0 (dD H (H.length-1)).pv)[H.length-1]?=some q:=⟨_,List.getElem?_eq_getElem hl3⟩;obtain⟨q,g3⟩:=g3;have z0:Int.toNat 0=0:=rfl;have iP:(0:Int)≤0∧0≤((H.length-1:Nat):Int)∧((H.length-1:Nat):Int)≤(((((lR H).set 0 (dD H (H.length-1)).pv).set (H.length-1) (dD H 0).pv).length:Nat):Int):=by refine⟨by omega,by omega,?_⟩;simp only[List.length_set,List.length_map];omega
  simp only[hl,e1,if_pos i0,z0,g0,U,if_pos (Az hl1),Int.toNat_natCast,gl,ndE,if_pos (Az hl3),g3,and_true,if_pos iP,Nat.sub_zero];simp only[nd0,nd1,nd2,Fa,←List.map_take,kO];rw[if_pos (by refine⟨by omega,by omega,?_⟩;simp only[List.length_map,gO];omega)];have:=DS hG df o (dD H 0) pu 0 0 0 (H.length+1) rounds (KX H) 0 (by simp[KX];omega) (by unfold rounds;omega) (by omega) ⟨Xo.node,Xo.len,Xo.e,Xo.pu,by simp[KX];omega⟩;exact this
theorem DI.small{s B:Nat}{o:mb}{pu:Nat}{H:List Nd}(h:DI E n s B o pu H)(hG:Gr E n ks vs)(hB:B≤1073741824)(hn:n≤64):∀x∈H,Sm n E x pu H:=fun x hx=>by have h1:=h.R5 x hx;have h2:=Nk n o;have h3:B*CU n o≤1073741824*64:=Nat.mul_le_mul hB (by omega);have h4:=h.cnt;have h5:=h.X7;have h6:=hG.len;exact⟨h.node x hx,by omega,by omega,by omega,by omega⟩
theorem Pf(hG:Gr E n ks vs){s B:Nat}(hs:s<n)(hB:B≤1073741824)(hEB:∀y∈E,y.c≤B)(hn:n≤64):∃o pu,DI E n s B o pu []∧ca.run (dX ca) (.rm 3 ks vs,dL n (fun _=>none),1,[PV.agg [.int .i64 s,.int .i64 0,.int .i64 0,.int .i64 0]],())=some (.rs 3 (dL n o)):=by
 have hE:∀y∈E,y.f<n∧y.t<n∧y.c≤B:=fun y hy=>⟨(hG.node y hy).1,(hG.node y hy).2.1,hEB y hy⟩;have hlen:=hG.len;obtain⟨a,r,hI,⟨h0,hr⟩,lY⟩:=Pb (body:=dX ca) (A:=mb×Nat×List Nd) (fun a=>(PV.rm 3 ks vs,dL n a.1,(a.2.1:Int),lR a.2.2,())) (fun a=>DI E n s B a.1 a.2.1 a.2.2) (fun a=>a.2.2.length+sJ E a.1) (fun a r=>a.2.2=[]∧r=some (.rs 3 (dL n a.1))) (fun a hI df=>by
  obtain⟨o,pu,H⟩:=a;have hI:DI E n s B o pu H:=hI;dsimp only;rw[Pe hG df o pu H (hI.small hG hB hn)];by_cases hH:H.length=0
  ·right;rw[if_pos hH];exact⟨_,⟨List.eq_nil_of_length_eq_zero hH,rfl⟩,rfl⟩
  ·left;rw[if_neg hH];have cS:0<H.length:=by omega
   unfold KR;by_cases qX:(o (dD H 0).n).isSome=true
   ·rw[if_pos qX];refine⟨(o,pu,rest H),hI.skip cS qX,?_,rfl⟩;have:=(E8 hI.hp cS).2.1;dsimp only;omega
   ·rw[if_neg qX];have yj:o (dD H 0).n=none:=by simpa using qX
    obtain⟨s1,s2⟩:=hI.settle hE cS yj;exact⟨(_,_,_),s1,s2,rfl⟩) rounds ((fun _=>none),1,[⟨s,0,0,0⟩]) (DI.start hs) (by
  have:sJ E (fun _=>none)≤E.length:=List.countP_le_length;simp only[List.length_cons,List.length_nil];unfold rounds;omega)
 obtain⟨o,pu,H⟩:=a;dsimp only at h0 hr hI;subst h0;refine⟨o,pu,hI,?_⟩;rw[kO,←hr,←lY];rfl
theorem Pg(hG:Gr E n ks vs){s B:Nat}(hs:s<n)(hB:B≤1073741824)(hEB:∀y∈E,y.c≤B)(hn:n≤64):∃o pu,DI E n s B o pu []∧dq [.int .i64 n,.rm 3 ks vs,.int .i64 s]=some (.rs 3 (dL n o)):=by
 obtain⟨o,pu,hI,h⟩:=Pf hG hs hB hEB hn;refine⟨o,pu,hI,?_⟩;have ep:(0:Int)≤(n:Int)∧(n:Int)≤(n:Int)∧n*24≤aa∧0<24∧0<3:=by refine⟨by omega,by omega,?_,by omega,by omega⟩;unfold aa;omega
 simp only[dq,nh,CH,U,dP,if_true,if_pos ep,Int.toNat_natCast,List.length_replicate];have fill:∀k,k≤n→((List.range n).map fun v=>if v<k then pZ v none else PV.agg [.int .i64 0,.int .i64 0,.int .i64 0]).length=n:=fun k _=>by simp
 refine bK (fun k=>(PV.rm 3 ks vs,(s:Int),(n:Int),(k:Int),(List.range n).map (fun v=>if v<k then pZ v none else PV.agg [.int .i64 0,.int .i64 0,.int .i64 0]),())) n (fun k hk rec=>?_) (fun rec=>?_) (by unfold rounds;omega) ?_
 ·unfold gd;dsimp only;have hg:decide ((k:Int)<(n:Int))=true:=by simp;omega
  have pS:af (k:Int) ((List.range n).map fun v=>if v<k then pZ v none else PV.agg [.int .i64 0,.int .i64 0,.int .i64 0]).length:=Az (by rw[fill k (by omega)];exact hk);have eI:((List.range n).map fun v=>if v<k then pZ v none else PV.agg [.int .i64 0,.int .i64 0,.int .i64 0])[k]?=some (PV.agg [.int .i64 0,.int .i64 0,.int .i64 0]):=by simp[hk]
  have qX:((List.range n).map fun v=>if v<k then pZ v none else PV.agg [.int .i64 0,.int .i64 0,.int .i64 0]).set k (.agg [.int .i64 k,.int .i64 (-1),.int .i64 (-1)])=(List.range n).map fun v=>if v<k+1 then pZ v none else PV.agg [.int .i64 0,.int .i64 0,.int .i64 0]:=by
   apply List.ext_getElem?;intro i;rw[List.getElem?_set];by_cases e:k=i
   ·subst e;simp[hk,pZ]
   ·rw[if_neg e];by_cases hi:i<n
    ·simp only[List.getElem?_map,List.getElem?_range hi,Option.map_some];by_cases h1:i<k
     ·rw[if_pos h1,if_pos (by omega)]
     ·rw[if_neg h1,if_neg (by omega)]
    ·rw[List.getElem?_eq_none (by simp;omega),List.getElem?_eq_none (by simp;omega)]
  rw[if_pos hg,if_pos pS,Int.toNat_natCast,eI,U,qX,al (by omega)]
 ·unfold gd;dsimp only;have hg:¬decide ((n:Int)<(n:Int))=true:=by simp
  have e0:IntKind.i64.wrap ((1:Nat)-1:Int)=0:=by decide
  have e1:IntKind.i64.wrap (0+1)=1:=by decide
  have Jt:((List.range n).map fun v=>if v<n then pZ v none else PV.agg [.int .i64 0,.int .i64 0,.int .i64 0])=dL n (fun _=>none):=by unfold dL;apply List.map_congr_left;intro v hv;rw[if_pos (List.mem_range.1 hv)]
  rw[if_neg hg,Jt,e1];refine Eq.trans ?_ h;have first:∀N,cE (gf ca) (N+1) (IntKind.i64.wrap (((1:Nat):Int)-1),PV.rm 3 ks vs,1,dL n (fun _=>none),[PV.agg [.int .i64 s,.int .i64 0,.int .i64 0,.int .i64 0]],())=ca.run (dX ca) (.rm 3 ks vs,dL n (fun _=>none),1,[PV.agg [.int .i64 s,.int .i64 0,.int .i64 0,.int .i64 0]],()):=fun N=>by
   simp only[cE];generalize cE (gf ca) N=rec;unfold gf;dsimp only;have hg:decide (IntKind.i64.wrap (((1:Nat):Int)-1)>0)=false:=by decide
   rw[hg,cond_false,U,if_neg (by simp)]
  exact first 18446744073709551615
 ·congr 1;have:((List.range n).map fun v=>if v<0 then pZ v none else PV.agg [.int .i64 0,.int .i64 0,.int .i64 0])=List.replicate n (PV.agg [.int .i64 0,.int .i64 0,.int .i64 0]):=by
   apply List.ext_getElem?;intro i;by_cases hi:i<n
   ·simp[hi,List.getElem?_replicate]
   ·rw[List.getElem?_eq_none (by simp;omega),List.getElem?_eq_none (by simp;omega)]
  rw[this];rfl
end
end Go.Ab.Nw
namespace Go.Ab.Nw
set_option maxRecDepth 100000
set_option linter.unusedVariables false
set_option linter.unusedSimpArgs false
theorem U2{S R:Type}{body:S→(S→Option R)→Option R}{s:S}{r:Option R}(h:∀rec,body s rec=r):ca.run body s=r:=bK (fun _=>s) 0 (fun k hk=>by omega) h (by unfold rounds;omega) rfl
def qd(n k:Nat)(F:Nat→PV)(z:PV):List PV:=(List.range n).map fun v=>if v<k then F v else z
theorem Hr(n k:Nat)(F:Nat→PV)(z:PV):(qd n k F z).length=n:=by simp[qd]
theorem Hs{n k:Nat}{F:Nat→PV}{z:PV}(hk:k<n):(qd n k F z)[k]?=some z:=by simp[qd,hk]
theorem Ht{n k:Nat}{F:Nat→PV}{z:PV}(hk:k<n):(qd n k F z).set k (F k)=qd n (k+1) F z:=by
 apply List.ext_getElem?;intro i;rw[List.getElem?_set];by_cases e:k=i
 ·subst e;simp[qd,hk]
 ·rw[if_neg e];unfold qd;by_cases hi:i<n
  ·simp only[List.getElem?_map,List.getElem?_range hi,Option.map_some];by_cases h1:i<k
   ·rw[if_pos h1,if_pos (by omega)]
   ·rw[if_neg h1,if_neg (by omega)]
  ·rw[List.getElem?_eq_none (by simp;omega),List.getElem?_eq_none (by simp;omega)]
theorem DT(n:Nat)(F:Nat→PV)(z:PV):qd n 0 F z=List.replicate n z:=by
 unfold qd;apply List.ext_getElem?;intro i;by_cases hi:i<n
 ·simp[hi,List.getElem?_replicate]
 ·rw[List.getElem?_eq_none (by simp;omega),List.getElem?_eq_none (by simp;omega)]
theorem Hu(n:Nat)(F:Nat→PV)(z:PV):qd n n F z=(List.range n).map F:=by unfold qd;apply List.map_congr_left;intro v hv;rw[if_pos (List.mem_range.1 hv)]
def Fc:Zj→Int
 |none=> -1
 |some (L,_)=>L
theorem aeE(v:Nat)(l:Zj):asInt .i64 (cell (pZ v l) 1)=some (Fc l):=by
 cases l with
 |none=>rfl
 |some p=>obtain⟨L,e⟩:=p;rfl
theorem KY(n:Nat)(hn:n≤64)(o:mb):dA [.rs 3 (dL n o)]=some (.rs 1 ((List.range n).map fun v=>.int .i64 (Fc (o v)))):=by
 have e0:ab 3 (.rs 3 (dL n o))=some (dL n o):=by simp[ab]
 have ep:(0:Int)≤((n:Nat):Int)∧((n:Nat):Int)≤((n:Nat):Int)∧n*8≤aa∧0<8∧0<1:=by refine⟨by omega,by omega,?_,by omega,by omega⟩;unfold aa;omega
 simp only[dA,l6,e0,U,nT,Int.toNat_natCast,if_pos ep];refine bK (fun k=>(dL n o,(n:Int),(k:Int),qd n k (fun v=>.int .i64 (Fc (o v))) (.int .i64 0),())) n (fun k hk rec=>?_) (fun rec=>?_) (by unfold rounds;omega) ?_
 ·unfold jt;dsimp only;have hg:decide ((k:Int)<(n:Int))=true:=by simp;omega
  rw[if_pos hg,ay,nU o hk,U,aeE,U,if_pos (Az (by rw[Hr];exact hk)),Int.toNat_natCast,Hs hk,U,al (by omega)];rw[Ht (F:=fun v=>PV.int .i64 (Fc (o v))) hk]
 ·unfold jt;dsimp only;rw[if_neg (by simp),Hu]
 ·rw[DT];rfl
theorem Sa(i n:Nat)(h:i<n):cB [.int .i64 i,.rp [.int .i64 n]]=some (.bool false):=by
 have h1:decide ((i:Int)<0)=false:=by simp
 have h2:decide ((i:Int)≥(n:Int))=false:=by simp;omega
 simp only[cB,l5,CH,U,h1,cond_false,h2]
theorem ed0(y:Ed):cell y.pv 0=.int .i64 y.f:=rfl
theorem Sb(E:List Ed)(n:Nat)(hn:n≤64)(hE:E.length≤4096)(h:∀y∈E,y.f<n∧y.t<n∧y.c≤1073741824):eB [.int .i64 n,.rs 3 (E.map Ed.pv),.rs 0 []]=some (.int .i64 0):=by
 have e0:ab 3 (.rs 3 (E.map Ed.pv))=some (E.map Ed.pv):=by simp[ab]
 have e1:ab 1 (.rs 0 [])=some []:=by simp[ab]
 have h1:decide ((n:Int)<0)=false:=by simp
 have h2:decide ((n:Int)>64)=false:=by simp;omega
 have h3:¬decide (((E.map Ed.pv).length:Int)>4096)=true:=by simp;omega
 simp only[eB,oM,CH,e0,e1,U,h1,h2,cond_false,Bool.false_eq_true,if_false,if_neg h3];refine bK (fun k=>(([]:List PV),E.map Ed.pv,((E.map Ed.pv).length:Int),(k:Int),(n:Int),())) E.length (fun k hk rec=>?_) (fun rec=>?_) (by unfold rounds;omega) rfl
 ·unfold lB;dsimp only;have hg:decide ((k:Int)<((E.map Ed.pv).length:Int))=true:=by simp;omega
  obtain⟨z,hz⟩:∃z,E[k]?=some z:=⟨_,List.getElem?_eq_getElem hk⟩;have CN:(E.map Ed.pv)[k]?=some z.pv:=by rw[List.getElem?_map,hz];rfl
  obtain⟨a1,a2,a3⟩:=h z (List.mem_of_getElem? hz);have h4:decide ((z.c:Int)<0)=false:=by simp
  have h5:decide ((z.c:Int)>1073741824)=false:=by simp;omega
  simp only[hg,if_true,ay,CN,U,ed0,ed1,ed2,CH,Sa _ _ a1,Sa _ _ a2,asBool,cond_false,Bool.false_eq_true,if_false,h4,h5,al (show k<9223372036854775807 by omega)]
 ·unfold lB;dsimp only;rw[if_neg (by simp)];refine U2 fun rec=>?_;unfold qe;dsimp only;rw[if_neg (by simp)]
abbrev Fe:=List (Nat×List Ed)
def Ff(z:Ed):Fe→Fe
 |[]=>[(z.f,[z])]
 |(a,l)::r=>if z.f=a then(a,l++[z])::r else(a,l)::Ff z r
def mO(v:Nat):Fe→List Ed
 |[]=>[]
 |(a,l)::r=>if v=a then l else mO v r
def DU(m:Fe):List (PV×PV):=m.map fun x=>(.int .i64 x.1,.fP 3 (x.2.map Ed.pv))
theorem Sc(a b:Nat):cA (PV.int .i64 a).cells (PV.int .i64 b).cells=decide (a=b):=by
 have:((a:Int)==(b:Int))=decide (a=b):=by
  by_cases h:a=b
  ·simp[h]
  ·rw[decide_eq_false h,beq_eq_false_iff_ne];omega
 simp only[PV.cells,cA,peq,Bool.and_true,this]
theorem aaO(v:Nat):∀m:Fe,F5 3 (.int .i64 v) (DU m)=some ((mO v m).map Ed.pv)
 |[]=>rfl
 |(a,l)::r=>by
  have ih:=aaO v r;unfold DU at ih⊢;simp only[List.map_cons,F5,mO,Sc];by_cases h:v=a
  ·simp[h,aY]
  ·simp only[h,decide_false,Bool.false_eq_true,if_false];exact ih
theorem Nn(z:Ed):∀m:Fe,eO (.int .i64 z.f) (.fP 3 ((mO z.f m).map Ed.pv++[z.pv])) (pK (.int .i64 z.f) (DU m))=DU (Ff z m)
 |[]=>by simp[DU,pK,eO,Ff,mO]
 |(a,l)::r=>by
  have ih:=Nn z r;unfold DU at ih⊢;simp only[List.map_cons,pK,Ff,mO,Sc];by_cases h:z.f=a
  ·subst h;simp[eO,Sc]
  ·simp only[h,decide_false,Bool.false_eq_true,if_false,eO,Sc,List.map_cons];rw[ih]
theorem DV(v:Nat)(z:Ed):∀m:Fe,mO v (Ff z m)=mO v m++(if z.f=v then[z]else[])
 |[]=>by
  simp only[Ff,mO];by_cases h:v=z.f
  ·simp[h]
  ·rw[if_neg h,if_neg fun e=>h e.symm];rfl
 |(a,l)::r=>by
  simp only[Ff];by_cases h:z.f=a
  ·subst h;simp only[if_true,mO];by_cases hv:v=z.f
   ·simp[hv]
   ·rw[if_neg hv,if_neg hv,if_neg fun e=>hv e.symm];simp
  ·rw[if_neg h];simp only[mO];by_cases hv:v=a
   ·subst hv;rw[if_pos rfl,if_pos rfl,if_neg h];simp
   ·rw[if_neg hv,if_neg hv];exact DV v z r
def vf(E:List Ed):Fe:=E.foldl (fun m z=>Ff z m) []
theorem DW(E:List Ed)(z:Ed):vf (E++[z])=Ff z (vf E):=by simp[vf]
theorem DX(v:Nat)(E:List Ed):mO v (vf E)=E.filter fun y=>y.f==v:=by
 rw[←List.reverse_reverse E];induction E.reverse with
 |nil=>rfl
 |cons z l ih=>
  rw[List.reverse_cons,DW,DV,ih,List.filter_append];by_cases h:z.f=v
  ·simp[h]
  ·simp[h]
theorem aaP(v:Nat):∀m:Fe,ab 3 (dK (.int .i64 v) (.rs 0 []) (((DU m).map fun x=>x.1).zip ((DU m).map fun x=>x.2.lV)))=some ((mO v m).map Ed.pv)
 |[]=>by simp[DU,dK,ab,mO]
 |(a,l)::r=>by
  have ih:=aaP v r;unfold DU at ih⊢;simp only[List.map_cons,List.zip_cons_cons,dK,Sc,mO];by_cases h:v=a
  ·simp[h,PV.lV,ab]
  ·simp only[h,decide_false,Bool.false_eq_true,if_false];exact ih
theorem Fg(E:List Ed)(hE:E.length≤4096):c7 [.rs 3 (E.map Ed.pv),.bool false]=some (.rm 3 ((DU (vf E)).map fun x=>x.1) ((DU (vf E)).map fun x=>x.2.lV)):=by
 have e0:ab 3 (.rs 3 (E.map Ed.pv))=some (E.map Ed.pv):=by simp[ab]
 simp only[c7,j7,e0,U,asBool];refine bK (fun k=>(false,E.map Ed.pv,((E.map Ed.pv).length:Int),(k:Int),DU (vf (E.take k)),())) E.length (fun k hk rec=>?_) (fun rec=>?_) (by unfold rounds;omega) (by simp[vf,DU])
 ·unfold ig;dsimp only;have hg:decide ((k:Int)<((E.map Ed.pv).length:Int))=true:=by simp;omega
  obtain⟨z,hz⟩:∃z,E[k]?=some z:=⟨_,List.getElem?_eq_getElem hk⟩;have CN:(E.map Ed.pv)[k]?=some z.pv:=by rw[List.getElem?_map,hz];rfl
  have htk:E.take (k+1)=E.take k++[z]:=by rw[List.take_add_one,hz];rfl
  have ZO:PV.agg [cell z.pv 0,cell z.pv 1,cell z.pv 2]=z.pv:=rfl;have hlen:((mO z.f (vf (E.take k))).map Ed.pv++[z.pv]).length*24≤aa∧0<24:=by
   have:(mO z.f (vf (E.take k))).length≤E.length:=by rw[DX];exact Nat.le_trans (List.length_filter_le ..) (by rw[List.length_take];omega)
   simp only[List.length_append,List.length_map,List.length_cons,List.length_nil];unfold aa;omega
  rw[if_pos hg,ay,CN,U,if_neg (by simp)];have aeF:PV.agg [.int .i64 z.f,cell z.pv 1,cell z.pv 2]=z.pv:=rfl;simp only[ed0,CH,U,aaO,aeF,if_pos hlen];rw[Nn,htk,DW,al (by omega)]
 ·unfold ig;dsimp only;rw[if_neg (by simp),List.take_length]
theorem Sd(E:List Ed)(n:Nat)(hn:n≤64)(hE:E.length≤4096)(h:∀y∈E,y.f<n∧y.t<n∧y.c≤1073741824):Gr E n ((DU (vf E)).map fun x=>x.1) ((DU (vf E)).map fun x=>x.2.lV):=⟨by omega,by omega,h,fun v _=>by rw[aaP,DX]⟩
end Go.Ab.Nw
