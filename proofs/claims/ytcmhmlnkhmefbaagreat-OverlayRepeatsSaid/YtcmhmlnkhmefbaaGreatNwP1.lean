import Derived.Test.YtcmhmlnkhmefbaaGreatAbLib
import Derived.Test.YtcmhmlnkhmefbaaGreatSh2
namespace Go.Ab.Nw
section
variable (w:Nat→Nat→Nat→Prop)
def An:Nat→Nat→Nat→Nat→Prop
 |0,i,j,L=>w i j L
 |k+1,i,j,L=>An k i j L∨∃A B,An k i k A∧An k k j B∧L=A+B
inductive jt:Nat→Nat→Nat→Prop
 |Cm {i j c:Nat}:w i j c→jt i j c
 |snoc {i m j A c:Nat}:jt i m A→w m j c→jt i j (A+c)
end
section
variable {w:Nat→Nat→Nat→Prop}
variable{i j L:Nat}
theorem An.up{k:Nat}(h:An w k i j L):An w (k+1) i j L:=.inl h
theorem An.le{k k':Nat}(hk:k≤k')(h:An w k i j L):An w k' i j L:=by
 induction hk with
 |refl=>exact h
 |step _ ih=>exact ih.up
theorem xt:∀(k:Nat){m i j A B:Nat},m<k→An w k i m A→An w k m j B→∃C,C≤A+B∧An w k i j C
 |0,_,_,_,_,_,h,_,_=>by omega
 |k+1,m,i,j,A,B,h,ha,hb=>by
  by_cases hm:m=k
  ·subst hm;have h1:∃A',A'≤A∧An w m i m A':=by
    rcases ha with ha|⟨X,Y,x,y,e⟩
    ·exact⟨A,Nat.le_refl _,ha⟩
    ·exact⟨X,by omega,x⟩
   have h2:∃B',B'≤B∧An w m m j B':=by
    rcases hb with hb|⟨X,Y,x,y,e⟩
    ·exact⟨B,Nat.le_refl _,hb⟩
    ·exact⟨Y,by omega,y⟩
   obtain⟨A',a1,a2⟩:=h1;obtain⟨B',b1,b2⟩:=h2;exact⟨A'+B',by omega,.inr ⟨A',B',a2,b2,rfl⟩⟩
  ·have br:m<k:=by omega
   rcases ha with ha|⟨X,Y,x,y,e⟩
   ·rcases hb with hb|⟨X',Y',x',y',e'⟩
    ·obtain⟨C,c1,c2⟩:=xt k br ha hb;exact⟨C,c1,.inl c2⟩
    ·obtain⟨C,c1,c2⟩:=xt k br ha x';exact⟨C+Y',by omega,.inr ⟨C,Y',c2,y',rfl⟩⟩
   ·rcases hb with hb|⟨X',Y',x',y',e'⟩
    ·obtain⟨C,c1,c2⟩:=xt k br y hb;exact⟨X+C,by omega,.inr ⟨X,C,x,c2,rfl⟩⟩
    ·exact⟨X+Y',by omega,.inr ⟨X,Y',x,y',rfl⟩⟩
theorem jt.join{m A B:Nat}(h1:jt w i m A)(h2:jt w m j B):jt w i j (A+B):=by
 induction h2 with
 |Cm h=>exact .snoc h1 h
 |snoc _ h ih=>rw[←Nat.add_assoc];exact .snoc ih h
theorem An.walk:∀{k i j L:Nat},An w k i j L→jt w i j L
 |0,_,_,_,h=>.Cm h
 |k+1,i,j,L,.inl h=>An.walk (k:=k) h
 |k+1,i,j,L,.inr ⟨A,B,h1,h2,e⟩=>by rw[e];exact(An.walk (k:=k) h1).join (An.walk (k:=k) h2)
theorem jt.via{n:Nat}(hn:∀i j c,w i j c→i<n)(h:jt w i j L):∃C,C≤L∧An w n i j C:=by
 induction h with
 |Cm h=>exact⟨_,Nat.le_refl _,An.le (Nat.zero_le _) (show An w 0 _ _ _ from h)⟩
 |snoc _ h ih=>obtain⟨C,c1,c2⟩:=ih;obtain⟨D,d1,d2⟩:=xt n (hn _ _ _ h) c2 (An.le (Nat.zero_le _) (show An w 0 _ _ _ from h));exact⟨D,by omega,d2⟩
variable{w':Nat→Nat→Nat→Prop}
theorem jt.mono(hw:∀i j c,w i j c→w' i j c)(h:jt w i j L):jt w' i j L:=by
 induction h with
 |Cm h=>exact .Cm (hw _ _ _ h)
 |snoc _ h ih=>exact .snoc ih (hw _ _ _ h)
theorem jt.leq(hw:∀i j c,w i j c→∃c',c'≤c∧w' i j c')(h:jt w i j L):∃L',L'≤L∧jt w' i j L':=by
 induction h with
 |Cm h=>obtain⟨c',h1,h2⟩:=hw _ _ _ h;exact⟨c',h1,.Cm h2⟩
 |snoc _ h ih=>obtain⟨c',h1,h2⟩:=hw _ _ _ h;obtain⟨L',l1,l2⟩:=ih;exact⟨L'+c',by omega,.snoc l2 h2⟩
def M4(w:Nat→Nat→Nat→Prop)(i j:Nat)(o:Option Nat):Prop:=match o with
 |some L=>jt w i j L∧∀L',jt w i j L'→L≤L'
 |none=>∀L',¬jt w i j L'
theorem M4.unique{o o':Option Nat}(h:M4 w i j o)(h':M4 w i j o'):o=o':=by
 cases o with
 |none=>cases o' with
  |none=>rfl
  |some L=>exact absurd h'.1 (h L)
 |some L=>cases o' with
  |none=>exact absurd h.1 (h' L)
  |some L'=>rw[Nat.le_antisymm (h.2 _ h'.1) (h'.2 _ h.1)]
structure Fw(w:Nat→Nat→Nat→Prop)(inf:Nat)(n:Nat)(d:Nat→Nat→Nat):Prop where
 top:∀i j,i<n→j<n→d i j≤inf
 real:∀i j,i<n→j<n→d i j<inf→jt w i j (d i j)
def pj(w:Nat→Nat→Nat→Prop)(k i j:Nat)(x:Nat):Prop:=∀L,An w k i j L→x≤L
variable{d:Nat→Nat→Nat}
theorem UE{inf n k:Nat}(h:Fw w inf n d)(hi:i<n)(hj:j<n)(hk:k<n){x:Nat}(hx:x=min (d i j) (d i k+d k j)){d':Nat→Nat→Nat}(hd:∀a b,d' a b=if a=i∧b=j then x else d a b):Fw w inf n d'∧(∀a b,d' a b≤d a b)∧(pj w k i k (d i k)→pj w k k j (d k j)→pj w k i j (d i j)→pj w (k+1) i j (d' i j)):=by
 refine⟨⟨fun a b ha hb=>?_,fun a b ha hb br=>?_⟩,fun a b=>?_,fun h1 h2 h3 L hL=>?_⟩
 ·rw[hd];split
  ·have:=h.top i j hi hj;omega
  ·exact h.top a b ha hb
 ·rw[hd]at br⊢;split
  ·rename_i e;rw[if_pos e]at br;obtain⟨rfl,rfl⟩:=e;by_cases hm:d a b≤d a k+d k b
   ·rw[show x=d a b by omega]at br⊢;exact h.real a b ha hb br
   ·have e2:x=d a k+d k b:=by omega
    rw[e2]at br⊢;exact(h.real a k ha hk (by omega)).join (h.real k b hk hb (by omega))
  ·rename_i e;rw[if_neg e]at br;exact h.real a b ha hb br
 ·rw[hd];split
  ·rename_i e;obtain⟨rfl,rfl⟩:=e;omega
  ·exact Nat.le_refl _
 ·rw[hd,if_pos ⟨rfl,rfl⟩];rcases hL with hL|⟨A,B,a1,a2,e⟩
  ·have:=h3 _ hL;omega
  ·have:=h1 _ a1;have:=h2 _ a2;omega
theorem UF{inf n:Nat}(hn:∀i j c,w i j c→i<n)(h:Fw w inf n d)(hi:i<n)(hj:j<n)(hb:pj w n i j (d i j))(mX:∀L,(∀L',jt w i j L'→L≤L')→jt w i j L→L<inf):M4 w i j (if d i j<inf then some (d i j)else none):=by
 have low:∀L,jt w i j L→d i j≤L:=fun L hL=>by obtain⟨C,c1,c2⟩:=hL.via hn;exact Nat.le_trans (hb C c2) c1
 split
 ·rename_i br;exact⟨h.real i j hi hj br,low⟩
 ·rename_i CP;intro L hL;have key:∀m,(∃L,L≤m∧jt w i j L)→∃L,jt w i j L∧∀L',jt w i j L'→L≤L':=by
   intro m;induction m with
   |zero=>rintro⟨L,hl,hw⟩;exact⟨L,hw,fun L' _=>by omega⟩
   |succ m ih=>
    rintro⟨L,hl,hw⟩;by_cases he:∃L,L≤m∧jt w i j L
    ·exact ih he
    ·refine⟨L,hw,fun L' hw'=>?_⟩;have:¬L'≤m:=fun hle=>he ⟨L',hle,hw'⟩;omega
  obtain⟨L0,h1,h2⟩:=key L ⟨L,Nat.le_refl _,hL⟩;have:=mX L0 h2 h1;have:=low L0 h1;omega
end
end Go.Ab.Nw
namespace Go.Ab.Nw
structure Nd where
 n:Nat
 len:Nat
 e:Nat
 num:Nat
 deriving DecidableEq,Inhabited
def AF(a b:Nd):Bool:=decide (a.len<b.len∨(a.len=b.len∧(a.e<b.e∨(a.e=b.e∧a.num<b.num))))
def sx(a b:Nd):Prop:=AF b a=false
theorem M5(a b:Nd):AF a b=true↔(a.len<b.len∨(a.len=b.len∧(a.e<b.e∨(a.e=b.e∧a.num<b.num)))):=by simp[AF]
theorem xv(a b:Nd):sx a b↔¬(b.len<a.len∨(b.len=a.len∧(b.e<a.e∨(b.e=a.e∧b.num<a.num)))):=by unfold sx;rw[←M5];simp
theorem yM(a:Nd):sx a a:=by rw[xv];omega
theorem sy{a b c:Nd}(h:sx a b)(k:sx b c):sx a c:=by rw[xv]at*;omega
theorem uo{a b:Nd}(h:AF a b=true):sx a b:=by rw[xv];rw[M5]at h;omega
theorem RX{a b:Nd}(h:sx a b):a.len≤b.len:=by rw[xv]at h;omega
def dG(a:List Nd)(i:Nat):Nd:=a.getD i default
variable{a:List Nd}{i:Nat}
theorem E5(h:i<a.length):a[i]?=some (dG a i):=by simp[dG,List.getD,h]
def swp(a:List Nd)(i k:Nat):List Nd:=(a.set i (dG a k)).set k (dG a i)
@[simp] theorem gO(a:List Nd)(i k:Nat):(swp a i k).length=a.length:=by simp[swp]
theorem RY(a:List Nd)(i j:Nat)(x:Nd)(h:i<a.length):dG (a.set i x) j=if j=i then x else dG a j:=by
 unfold dG List.getD;rw[List.getElem?_set];by_cases e:i=j
 ·subst e;simp[h]
 ·rw[if_neg e,if_neg fun h=>e h.symm]
theorem lC(a:List Nd)(i k j:Nat)(hi:i<a.length)(hk:k<a.length):dG (swp a i k) j=if j=k then dG a i else if j=i then dG a k else dG a j:=by unfold swp;rw[RY _ _ _ _ (by simpa using hk),RY _ _ _ _ hi]
theorem yN{x:Nd}:x∈a↔∃i,i<a.length∧dG a i=x:=by
 rw[List.mem_iff_getElem?];constructor
 ·rintro⟨i,h⟩;have hi:=(List.getElem?_eq_some_iff.1 h).1;rw[E5 hi]at h;exact⟨i,hi,by simpa using h⟩
 ·rintro⟨i,hi,h⟩;exact⟨i,by rw[E5 hi,h]⟩
theorem AG{k:Nat}(hi:i<a.length)(hk:k<a.length)(x:Nd):x∈swp a i k↔x∈a:=by
 rw[yN,yN];constructor
 ·rintro⟨j,hj,h⟩;rw[lC _ _ _ _ hi hk]at h;split at h
  ·exact⟨i,hi,h⟩
  ·split at h
   ·exact⟨k,hk,h⟩
   ·exact⟨j,by simpa using hj,h⟩
 ·rintro⟨j,hj,h⟩;by_cases e1:j=i
  ·subst e1;refine⟨k,by simpa using hk,?_⟩;rw[lC _ _ _ _ hi hk,if_pos rfl,h]
  ·by_cases e2:j=k
   ·subst e2;refine⟨i,by simpa using hi,?_⟩;rw[lC _ _ _ _ hi hk];split
    ·rename_i e;exact absurd e.symm e1
    ·rw[if_pos rfl,h]
   ·exact⟨j,by simpa using hj,by rw[lC _ _ _ _ hi hk,if_neg e2,if_neg e1,h]⟩
def Hp(a:List Nd):Prop:=∀j,0<j→j<a.length→sx (dG a ((j-1)/2)) (dG a j)
theorem Hp.min(h:Hp a):∀j,j<a.length→sx (dG a 0) (dG a j):=by
 intro j;induction j using Nat.strongRecOn with
 |ind j ih=>
  intro hj;by_cases h0:j=0
  ·subst h0;exact yM _
  ·exact sy (ih ((j-1)/2) (by omega) (by omega)) (h j (by omega) hj)
def UG(a:List Nd)(i:Nat):Prop:=(∀j,0<j→j<a.length→j≠i→sx (dG a ((j-1)/2)) (dG a j))∧∀c,0<c→c<a.length→(c-1)/2=i→0<i→sx (dG a ((i-1)/2)) (dG a c)
theorem UG.done(h:UG a i)(hi:i<a.length)(hs:i=0∨AF (dG a i) (dG a ((i-1)/2))=false):Hp a:=by
 intro j h0 hj;by_cases e:j=i
 ·subst e;rcases hs with hs|hs
  ·omega
  ·exact hs
 ·exact h.1 j h0 hj e
theorem UG.step(h:UG a i)(h0:0<i)(hi:i<a.length)(hb:AF (dG a i) (dG a ((i-1)/2))=true):UG (swp a i ((i-1)/2)) ((i-1)/2):=by
 have hp:(i-1)/2<a.length:=by omega
 have hpi:(i-1)/2<i:=by omega
 obtain⟨p,CR⟩:∃p,p=(i-1)/2:=⟨_,rfl⟩;rw[←CR]at hp hpi hb⊢;have hle:=uo hb;refine⟨fun j j0 hj cT=>?_,fun c c0 hc Tq CG=>?_⟩
 ·rw[gO]at hj;rw[lC _ _ _ _ hi hp,lC _ _ _ _ hi hp,if_neg cT];by_cases e1:j=i
  ·subst e1;rw[←CR,if_pos rfl,if_pos rfl];exact hle
  ·rw[if_neg e1];by_cases e2:(j-1)/2=p
   ·rw[if_pos e2];have:=h.1 j j0 hj e1;rw[e2]at this;exact sy hle this
   ·rw[if_neg e2];by_cases e3:(j-1)/2=i
    ·rw[if_pos e3];have:=h.2 j j0 hj e3 h0;rw[←CR]at this;exact this
    ·rw[if_neg e3];exact h.1 j j0 hj e1
 ·rw[gO]at hc;have hpp:(p-1)/2≠p∧(p-1)/2≠i:=by omega
  rw[lC _ _ _ _ hi hp,lC _ _ _ _ hi hp,if_neg hpp.1,if_neg hpp.2];have h1:=h.1 p CG hp (by omega);by_cases e1:c=p
  ·omega
  ·rw[if_neg e1];by_cases e2:c=i
   ·rw[if_pos e2];exact h1
   ·rw[if_neg e2];have:=h.1 c c0 hc e2;rw[Tq]at this;exact sy h1 this
theorem UG.start(h:Hp a)(x:Nd):UG (a++[x]) a.length:=by
 have VU:∀j,j<a.length→dG (a++[x]) j=dG a j:=fun j hj=>by simp[dG,List.getD,List.getElem?_append_left hj]
 refine⟨fun j j0 hj cT=>?_,fun c c0 hc Tq h0=>?_⟩
 ·have:j<a.length:=by simp at hj;omega
  rw[VU _ (by omega),VU _ this];exact h j j0 this
 ·simp at hc;omega
def UH(a:List Nd)(i:Nat):Prop:=(∀j,0<j→j<a.length→(j-1)/2≠i→sx (dG a ((j-1)/2)) (dG a j))∧∀c,0<c→c<a.length→(c-1)/2=i→0<i→sx (dG a ((i-1)/2)) (dG a c)
theorem UH.done(h:UH a i)(hs:∀c,0<c→c<a.length→(c-1)/2=i→sx (dG a i) (dG a c)):Hp a:=by
 intro j h0 hj;by_cases e:(j-1)/2=i
 ·rw[e];exact hs j h0 hj e
 ·exact h.1 j h0 hj e
theorem UH.step{k:Nat}(h:UH a i)(hk:k<a.length)(T7:k=2*i+1∨k=2*i+2)(TY:∀c,0<c→c<a.length→(c-1)/2=i→sx (dG a k) (dG a c))(hb:AF (dG a k) (dG a i)=true):UH (swp a i k) k:=by
 have hi:i<a.length:=by omega
 have hle:=uo hb;have hpk:(k-1)/2=i:=by omega
 refine⟨fun j j0 hj cT=>?_,fun c c0 hc Tq ZR=>?_⟩
 ·rw[gO]at hj;rw[lC _ _ _ _ hi hk,lC _ _ _ _ hi hk,if_neg cT];by_cases e1:j=k
  ·subst e1;rw[hpk,if_pos rfl,if_pos rfl];exact hle
  ·rw[if_neg e1];by_cases e2:(j-1)/2=i
   ·rw[if_pos e2,if_neg (by omega)];exact TY j j0 hj e2
   ·rw[if_neg e2];by_cases e3:j=i
    ·rw[if_pos e3];have:=h.2 k (by omega) hk hpk (by omega);rw[e3];exact this
    ·rw[if_neg e3];exact h.1 j j0 hj e2
 ·rw[gO]at hc;rw[lC _ _ _ _ hi hk,lC _ _ _ _ hi hk,hpk,if_neg (by omega),if_pos rfl,if_neg (by omega),if_neg (by omega)];have:=h.1 c c0 hc (by omega);rw[Tq]at this;exact this
theorem UH.start(h:Hp a)(cT:0<a.length):UH ((swp a 0 (a.length-1)).take (a.length-1)) 0:=by
 have hl:((swp a 0 (a.length-1)).take (a.length-1)).length=a.length-1:=by simp
 have VU:∀j,0<j→j<a.length-1→dG ((swp a 0 (a.length-1)).take (a.length-1)) j=dG a j:=fun j j0 hj=>by
  have:dG ((swp a 0 (a.length-1)).take (a.length-1)) j=dG (swp a 0 (a.length-1)) j:=by simp[dG,List.getD,List.getElem?_take_of_lt hj]
  rw[this,lC _ _ _ _ (by omega) (by omega),if_neg (by omega),if_neg (by omega)]
 refine⟨fun j j0 hj cT=>?_,fun c _ _ _ h0=>by omega⟩;rw[hl]at hj;rw[VU j j0 hj,VU _ (by omega) (by omega)];exact h j j0 (by omega)
theorem M6(cT:0<a.length)(y:Nd):(y∈(swp a 0 (a.length-1)).take (a.length-1)→y∈a)∧(y∈a→y=dG a 0∨y∈(swp a 0 (a.length-1)).take (a.length-1)):=by
 refine⟨fun h=>(AG cT (by omega) y).1 (List.mem_of_mem_take h),fun h=>?_⟩;have h:=(AG (i:=0) (k:=a.length-1) cT (by omega) y).2 h;rw[yN]at h;obtain⟨j,hj,e⟩:=h;rw[gO]at hj;by_cases hl:j=a.length-1
 ·left;rw[lC _ _ _ _ cT (by omega),if_pos hl]at e;exact e.symm
 ·right;rw[List.mem_iff_getElem?];refine⟨j,?_⟩;rw[List.getElem?_take_of_lt (by omega),E5 (by simpa using hj),e]
end Go.Ab.Nw
namespace Go.Ab.Nw
theorem O3{S R A:Type}{body:S→(S→Option R)→Option R}(st:A→S)(I:A→Prop)(m:A→Nat)(fin:A→Option R→Prop)(h:∀a,I a→∀rec,(∃a',I a'∧m a'<m a∧body (st a) rec=rec (st a'))∨(∃r,fin a r∧body (st a) rec=r)):∀N a,I a→m a<N→∃a' r,I a'∧fin a' r∧cF body N (st a)=r:=by
 intro N;induction N with
 |zero=>intro a _ h;omega
 |succ N ih=>
  intro a hI hm;simp only[cF];rcases h a hI (cF body N)with⟨a',h1,h2,h3⟩|⟨r,h1,h2⟩
  ·obtain⟨a2,r,i1,i2,i3⟩:=ih a' h1 (by omega);exact⟨a2,r,i1,i2,by rw[h3];exact i3⟩
  ·exact⟨a,r,hI,h1,h2⟩
def up:Nat→List Nd→Nat→List Nd
 |0,a,_=>a
 |f+1,a,i=>if 0<i∧AF (dG a i) (dG a ((i-1)/2))=true then up f (swp a i ((i-1)/2)) ((i-1)/2)else a
def push(a:List Nd)(x:Nd):List Nd:=up (a.length+1) (a++[x]) a.length
def DO(a:List Nd)(i:Nat):Nat:=if 2*i+1+1<a.length∧AF (dG a (2*i+1+1)) (dG a (2*i+1))=true then 2*i+1+1 else 2*i+1
def down:Nat→List Nd→Nat→List Nd
 |0,a,_=>a
 |f+1,a,i=>if a.length≤2*i+1 then a else if AF (dG a (DO a i)) (dG a i)=true then down f (swp a i (DO a i)) (DO a i)else a
def KL(a:List Nd):List Nd:=(swp a 0 (a.length-1)).take (a.length-1)
def rest(a:List Nd):List Nd:=down (a.length+1) (KL a) 0
theorem VY:∀(f:Nat){a:List Nd}{i:Nat},i<f→i<a.length→UG a i→Hp (up f a i)∧(up f a i).length=a.length∧∀x,x∈up f a i↔x∈a
 |0,_,_,h,_,_=>by omega
 |f+1,a,i,hf,hi,h=>by
  unfold up;split
  ·rename_i hc;have hp:(i-1)/2<a.length:=by omega
   obtain⟨h1,h2,h3⟩:=VY f (a:=swp a i ((i-1)/2)) (i:=(i-1)/2) (by omega) (by rw[gO];exact hp) (h.step hc.1 hi hc.2);exact⟨h1,by rw[h2,gO],fun x=>by rw[h3,AG hi hp]⟩
  ·rename_i hc;refine⟨h.done hi ?_,rfl,fun x=>Iff.rfl⟩;by_cases h0:i=0
   ·exact .inl h0
   ·right;cases hb:AF (dG a i) (dG a ((i-1)/2))with
    |false=>rfl
    |true=>exact absurd ⟨by omega,hb⟩ hc
variable{a:List Nd}
theorem UI(h:Hp a)(x:Nd):Hp (push a x)∧(push a x).length=a.length+1∧∀y,y∈push a x↔y∈a∨y=x:=by obtain⟨h1,h2,h3⟩:=VY (a.length+1) (a:=a++[x]) (i:=a.length) (by omega) (by simp) (UG.start h x);exact⟨h1,by unfold push;rw[h2];simp,fun y=>by unfold push;rw[h3];simp⟩
theorem RZ{i:Nat}(h:¬a.length≤2*i+1):DO a i<a.length∧(DO a i=2*i+1∨DO a i=2*i+2)∧∀c,0<c→c<a.length→(c-1)/2=i→sx (dG a (DO a i)) (dG a c):=by
 unfold DO;split
 ·rename_i hc;refine⟨by omega,.inr rfl,fun c c0 hl hp=>?_⟩;have:c=2*i+1∨c=2*i+1+1:=by omega
  rcases this with rfl|rfl
  ·exact uo hc.2
  ·exact yM _
 ·rename_i hc;refine⟨by omega,.inl rfl,fun c c0 hl hp=>?_⟩;have:c=2*i+1∨c=2*i+1+1:=by omega
  rcases this with rfl|rfl
  ·exact yM _
  ·unfold sx;cases hb:AF (dG a (2*i+1+1)) (dG a (2*i+1))with
   |false=>rfl
   |true=>exact absurd ⟨hl,hb⟩ hc
theorem M7:∀(f:Nat){a:List Nd}{i:Nat},a.length≤f+i→UH a i→Hp (down f a i)∧(down f a i).length=a.length∧∀x,x∈down f a i↔x∈a
 |0,a,i,hf,h=>⟨h.done fun c c0 hc hp=>by omega,rfl,fun x=>Iff.rfl⟩
 |f+1,a,i,hf,h=>by
  unfold down;split
  ·exact⟨h.done fun c c0 hc hp=>by omega,rfl,fun x=>Iff.rfl⟩
  ·rename_i hl;obtain⟨k1,k2,k3⟩:=RZ hl;split
   ·rename_i hb;obtain⟨h1,h2,h3⟩:=M7 f (a:=swp a i (DO a i)) (i:=DO a i) (by rw[gO];omega) (h.step k1 k2 k3 hb);exact⟨h1,by rw[h2,gO],fun x=>by rw[h3,AG (by omega) k1]⟩
   ·rename_i hb;refine⟨h.done fun c c0 hc hp=>sy ?_ (k3 c c0 hc hp),rfl,fun x=>Iff.rfl⟩;unfold sx;exact Bool.not_eq_true _▸hb
theorem E6(h:Hp a)(cT:0<a.length):Hp (rest a)∧(rest a).length=a.length-1∧(∀y∈rest a,y∈a)∧(∀y∈a,y=dG a 0∨y∈rest a)∧∀y∈a,(dG a 0).len≤y.len:=by
 have hl:(KL a).length=a.length-1:=by simp[KL]
 obtain⟨h1,h2,h3⟩:=M7 (a.length+1) (a:=KL a) (i:=0) (by rw[hl];omega) (UH.start h cT);refine⟨h1,by unfold rest;rw[h2,hl],fun y hy=>?_,fun y hy=>?_,fun y hy=>?_⟩
 ·exact(M6 cT y).1 ((h3 y).1 hy)
 ·rcases(M6 cT y).2 hy with h|h
  ·exact .inl h
  ·exact .inr ((h3 y).2 h)
 ·obtain⟨j,hj,rfl⟩:=yN.1 hy;exact RX (h.min j hj)
structure Ed where
 f:Nat
 t:Nat
 c:Nat
 deriving DecidableEq,Inhabited
def ew(E:List Ed)(i j c:Nat):Prop:=(⟨i,j,c⟩:Ed)∈E
abbrev Y5:=Option (Nat×Nat)
abbrev mc:=Nat→Y5
def uq(o:mc)(v:Nat)(l:Y5):mc:=fun u=>if u=v then l else o u
def sN(E:List Ed)(o:mc):Nat:=E.countP fun y=>(o y.f).isNone
def CW(n:Nat)(o:mc):Nat:=(List.range n).countP fun v=>(o v).isSome
def E7(E:List Ed)(s v L:Nat):Prop:=(v=s∧L=0)∨jt (ew E) s v L
structure DI(E:List Ed)(n s B:Nat)(o:mc)(pu:Nat)(H:List Nd):Prop where
 hp:Hp H
 node:∀x∈H,x.n<n
 real:∀x∈H,E7 E s x.n x.len
 kr:∀v L e,v<n→o v=some (L,e)→E7 E s v L∧∀L',E7 E s v L'→L≤L'
 front:∀u L e v c,u<n→o u=some (L,e)→(⟨u,v,c⟩:Ed)∈E→o v=none→∃x∈H,x.n=v∧x.len≤L+c
 src:o s=none→∃x∈H,x.n=s∧x.len=0
 R0:∀x∈H,x.len≤B*CW n o∧x.e≤CW n o
 XN:∀v L e,v<n→o v=some (L,e)→L≤B*n∧e≤n
 cnt:pu+sN E o≤1+E.length
 XO:H.length≤pu
theorem M8(n:Nat)(o:mc):CW n o≤n:=by unfold CW;have:=List.countP_le_length (p:=fun v=>(o v).isSome) (l:=List.range n);simpa using this
theorem zO{A:Type}[DecidableEq A]{p q:A→Bool}{v:A}:∀{l:List A},l.Nodup→v∈l→(∀u,u≠v→p u=q u)→p v=false→q v=true→l.countP q=l.countP p+1
 |a::l,hn,hv,Z4,h0,h1=>by
  rw[List.nodup_cons]at hn;rw[List.countP_cons,List.countP_cons];by_cases e:a=v
  ·subst e;have:l.countP q=l.countP p:=by apply List.countP_congr;intro u hu;rw[Z4 u fun e=>by subst e;exact hn.1 hu]
   rw[this,h0,h1];simp
  ·have FU:v∈l:=by rcases List.mem_cons.1 hv with h|h;exact absurd h.symm e;exact h
   rw[zO hn.2 FU Z4 h0 h1,Z4 a e];omega
variable{o:mc}
theorem R1{n:Nat}{v:Nat}{l:Nat×Nat}(hv:v<n)(h:o v=none):CW n (uq o v (some l))=CW n o+1:=zO (p:=fun v=>(o v).isSome) (q:=fun u=>(uq o v (some l) u).isSome) (v:=v) List.nodup_range (List.mem_range.2 hv) (fun u hu=>by simp[uq,hu]) (by simp[h]) (by simp[uq])
theorem DI.least{E:List Ed}{n s B:Nat}{pu:Nat}{H:List Nd}(h:DI E n s B o pu H)(hE:∀y∈E,y.f<n∧y.t<n){v L:Nat}(hv:o v=none)(hw:E7 E s v L):∃x∈H,x.len≤L:=by
 cases hs:o s with
 |none=>obtain⟨x,h1,_,h2⟩:=h.src hs;exact⟨x,h1,by omega⟩
 |some l=>
  obtain⟨Ls,es⟩:=l;rcases hw with⟨rfl,_⟩|hw
  ·rw[hs]at hv;cases hv
  have key:∀{v L:Nat},jt (ew E) s v L→o v=none→∃x∈H,x.len≤L:=by
   intro v L hw;induction hw with
   | @Cm j c hc=>intro hv;have pS:s<n:=(hE _ hc).1;obtain⟨x,h1,_,h2⟩:=h.front s Ls es j c pS hs hc hv;have:=(h.kr s Ls es pS hs).2 0 (.inl ⟨rfl,rfl⟩);exact⟨x,h1,by omega⟩
   | @snoc m j A c hA hc ih=>
    intro hv;cases hm:o m with
    |none=>obtain⟨x,h1,h2⟩:=ih hm;exact⟨x,h1,by omega⟩
    |some l=>obtain⟨Lm,em⟩:=l;have pS:m<n:=(hE _ hc).1;obtain⟨x,h1,_,h2⟩:=h.front m Lm em j c pS hm hc hv;have:=(h.kr m Lm em pS hm).2 A (.inr hA);exact⟨x,h1,by omega⟩
  exact key hw hv
theorem DI.skip{E:List Ed}{n s B:Nat}{pu:Nat}{H:List Nd}(h:DI E n s B o pu H)(cT:0<H.length)(qY:(o (dG H 0).n).isSome=true):DI E n s B o pu (rest H):=by
 obtain⟨r1,r2,r3,r4,r5⟩:=E6 h.hp cT;have other:∀x∈H,o x.n=none→x∈rest H:=fun x hx hn=>by
  rcases r4 x hx with e|e
  ·rw[e]at hn;rw[hn]at qY;cases qY
  ·exact e
 refine⟨r1,fun x hx=>h.node x (r3 x hx),fun x hx=>h.real x (r3 x hx),h.kr,fun u L e v c hu ho he hv=>?_,fun hs=>?_,fun x hx=>h.R0 x (r3 x hx),h.XN,h.cnt,by rw[r2];have:=h.XO;omega⟩
 ·obtain⟨x,x1,x2,x3⟩:=h.front u L e v c hu ho he hv;exact⟨x,other x x1 (by rw[x2];exact hv),x2,x3⟩
 ·obtain⟨x,x1,x2,x3⟩:=h.src hs;exact⟨x,other x x1 (by rw[x2];exact hs),x2,x3⟩
end Go.Ab.Nw
namespace Go.Ab.Nw
def lT(o:mc)(x:Nd):List Ed→Nat→List Nd→Nat×List Nd
 |[],pu,H=>(pu,H)
 |z::es,pu,H=>if(o z.t).isNone=true then lT o x es (pu+1) (push H ⟨z.t,x.len+z.c,x.e+1,pu⟩)else lT o x es pu H
theorem Cn{o:mc}{x:Nd}:∀{es:List Ed}{pu:Nat}{H:List Nd},Hp H→∃k,k≤es.length∧(lT o x es pu H).1=pu+k∧(lT o x es pu H).2.length=H.length+k∧Hp (lT o x es pu H).2∧(∀y∈(lT o x es pu H).2,y∈H∨∃z∈es,o z.t=none∧y.n=z.t∧y.len=x.len+z.c∧y.e=x.e+1)∧(∀y∈H,y∈(lT o x es pu H).2)∧∀z∈es,o z.t=none→∃y∈(lT o x es pu H).2,y.n=z.t∧y.len=x.len+z.c
 |[],pu,H,h=>⟨0,Nat.le_refl _,rfl,rfl,h,fun y hy=>.inl hy,fun y hy=>hy,fun z hz=>by cases hz⟩
 |z::es,pu,H,h=>by
  unfold lT;split
  ·rename_i hz;have hz:o z.t=none:=by simpa using hz
   obtain⟨p1,p2,p3⟩:=UI h ⟨z.t,x.len+z.c,x.e+1,pu⟩;obtain⟨k,k1,k2,k3,k4,k5,k6,k7⟩:=Cn (o:=o) (x:=x) (es:=es) (pu:=pu+1) p1;refine⟨k+1,by simp;omega,by rw[k2];omega,by rw[k3,p2];omega,k4,fun y hy=>?_,fun y hy=>k6 y ((p3 y).2 (.inl hy)),fun z' Qq hn=>?_⟩
   ·rcases k5 y hy with h1|⟨z',h1,h2⟩
    ·rcases(p3 y).1 h1 with h1|rfl
     ·exact .inl h1
     ·exact .inr ⟨z,by simp,hz,rfl,rfl,rfl⟩
    ·exact .inr ⟨z',by simp[h1],h2⟩
   ·rcases List.mem_cons.1 Qq with rfl|Qq
    ·exact⟨_,k6 _ ((p3 _).2 (.inr rfl)),rfl,rfl⟩
    ·exact k7 z' Qq hn
  ·rename_i hz;obtain⟨k,k1,k2,k3,k4,k5,k6,k7⟩:=Cn (o:=o) (x:=x) (es:=es) (pu:=pu) h;refine⟨k,by simp;omega,k2,k3,k4,fun y hy=>?_,k6,fun z' Qq hn=>?_⟩
   ·rcases k5 y hy with h1|⟨z',h1,h2⟩
    ·exact .inl h1
    ·exact .inr ⟨z',by simp[h1],h2⟩
   ·rcases List.mem_cons.1 Qq with rfl|Qq
    ·rw[hn]at hz;exact absurd rfl hz
    ·exact k7 z' Qq hn
theorem R2(E:List Ed)(o:mc)(v:Nat)(l:Nat×Nat)(h:o v=none):sN E o=sN E (uq o v (some l))+(E.filter fun y=>y.f==v).length:=by
 unfold sN;induction E with
 |nil=>rfl
 |cons y E ih=>
  rw[List.countP_cons,List.countP_cons,List.filter_cons,ih];by_cases e:y.f=v
  ·subst e;simp[uq,h];omega
  ·simp[uq,e];omega
variable{E:List Ed}
theorem DI.settle{n s B:Nat}{o:mc}{pu:Nat}{H:List Nd}(h:DI E n s B o pu H)(hE:∀y∈E,y.f<n∧y.t<n∧y.c≤B)(cT:0<H.length)(yr:o (dG H 0).n=none):DI E n s B (uq o (dG H 0).n (some ((dG H 0).len,(dG H 0).e))) (lT (uq o (dG H 0).n (some ((dG H 0).len,(dG H 0).e))) (dG H 0) (E.filter fun y=>y.f==(dG H 0).n) pu (rest H)).1 (lT (uq o (dG H 0).n (some ((dG H 0).len,(dG H 0).e))) (dG H 0) (E.filter fun y=>y.f==(dG H 0).n) pu (rest H)).2∧(lT (uq o (dG H 0).n (some ((dG H 0).len,(dG H 0).e))) (dG H 0) (E.filter fun y=>y.f==(dG H 0).n) pu (rest H)).2.length+sN E (uq o (dG H 0).n (some ((dG H 0).len,(dG H 0).e)))<H.length+sN E o:=by
 obtain⟨r1,r2,r3,r4,r5⟩:=E6 h.hp cT;obtain⟨x,hx⟩:∃x,x=dG H 0:=⟨_,rfl⟩;rw[←hx]at yr r4 r5⊢;have hxm:x∈H:=yN.2 ⟨0,cT,hx.symm⟩;have hxn:=h.node x hxm;obtain⟨o1,YX⟩:∃o1,o1=uq o x.n (some (x.len,x.e)):=⟨_,rfl⟩;rw[←YX];have oo:∀v,o1 v=if v=x.n then some (x.len,x.e)else o v:=fun v=>by rw[YX];rfl
 have on:∀v,o1 v=none→v≠x.n∧o v=none:=fun v hv=>by
  rw[oo]at hv;split at hv
  ·cases hv
  ·exact⟨‹_›,hv⟩
 obtain⟨k,k1,k2,k3,k4,k5,k6,k7⟩:=Cn (o:=o1) (x:=x) (es:=E.filter fun y=>y.f==x.n) (pu:=pu) r1;have hs:CW n o1=CW n o+1:=by rw[YX];exact R1 hxn yr
 have On:sN E o=sN E o1+(E.filter fun y=>y.f==x.n).length:=by rw[YX];exact R2 E o x.n _ yr
 have mem:∀z,z∈(E.filter fun y=>y.f==x.n)↔z∈E∧z.f=x.n:=fun z=>by simp[List.mem_filter]
 have go:∀z,z∈E→z.f=x.n→jt (ew E) s z.t (x.len+z.c):=fun z hz hf=>by
  have he:ew E x.n z.t z.c:=by
   unfold ew;have:(⟨x.n,z.t,z.c⟩:Ed)=z:=by rw[←hf]
   rw[this];exact hz
  rcases h.real x hxm with⟨e1,e2⟩|hw
  ·rw[e2,Nat.zero_add];rw[e1]at he;exact .Cm he
  ·exact .snoc hw he
 have other:∀y∈H,y.n≠x.n→y∈(lT o1 x (E.filter fun y=>y.f==x.n) pu (rest H)).2:=fun y hy hn=>by
  rcases r4 y hy with e|e
  ·exact absurd (by rw[e]) hn
  ·exact k6 y e
 refine⟨⟨k4,fun y hy=>?_,fun y hy=>?_,fun v L e hv ho=>?_,fun u L e v c hu ho he hv=>?_,fun Z7=>?_,fun y hy=>?_,fun v L e hv ho=>?_,?_,?_⟩,?_⟩
 ·rcases k5 y hy with h1|⟨z,z1,z2,z3,_⟩
  ·exact h.node y (r3 y h1)
  ·rw[z3];exact(hE z ((mem z).1 z1).1).2.1
 ·rcases k5 y hy with h1|⟨z,z1,z2,z3,z4,_⟩
  ·exact h.real y (r3 y h1)
  ·rw[z3,z4];exact .inr (go z ((mem z).1 z1).1 ((mem z).1 z1).2)
 ·rw[oo]at ho;split at ho
  ·rename_i e';simp only[Option.some.injEq,Prod.mk.injEq]at ho;obtain⟨rfl,rfl⟩:=ho;subst e';refine⟨h.real x hxm,fun L' hL=>?_⟩;obtain⟨y,y1,y2⟩:=h.least (fun y hy=>⟨(hE y hy).1,(hE y hy).2.1⟩) yr hL;exact Nat.le_trans (r5 y y1) y2
  ·exact h.kr v L e hv ho
 ·obtain⟨v1,v2⟩:=on v hv;rw[oo]at ho;split at ho
  ·rename_i e';simp only[Option.some.injEq,Prod.mk.injEq]at ho;obtain⟨rfl,rfl⟩:=ho;obtain⟨y,y1,y2,y3⟩:=k7 ⟨u,v,c⟩ ((mem _).2 ⟨he,e'⟩) hv;exact⟨y,y1,y2,by rw[y3];exact Nat.le_refl _⟩
  ·obtain⟨y,y1,y2,y3⟩:=h.front u L e v c hu ho he v2;exact⟨y,other y y1 (by rw[y2];exact v1),y2,y3⟩
 ·obtain⟨v1,v2⟩:=on s Z7;obtain⟨y,y1,y2,y3⟩:=h.src v2;exact⟨y,other y y1 (by rw[y2];exact v1),y2,y3⟩
 ·rw[hs,Nat.mul_succ];rcases k5 y hy with h1|⟨z,z1,z2,z3,z4,z5⟩
  ·have:=h.R0 y (r3 y h1);omega
  ·have:=h.R0 x hxm;have:=(hE z ((mem z).1 z1).1).2.2;omega
 ·rw[oo]at ho;split at ho
  ·simp only[Option.some.injEq,Prod.mk.injEq]at ho;obtain⟨rfl,rfl⟩:=ho;have h1:=h.R0 x hxm;have h2:=M8 n o;have h3:B*CW n o≤B*n:=Nat.mul_le_mul_left _ h2;omega
  ·exact h.XN v L e hv ho
 ·have:=h.cnt;omega
 ·have:=h.XO;omega
 ·rw[k3,r2];omega
theorem DI.start{n s B:Nat}(hs:s<n):DI E n s B (fun _=>none) 1 [⟨s,0,0,0⟩]:=by
 refine⟨fun j j0 hj=>by simp at hj;omega,fun x hx=>?_,fun x hx=>?_,fun v L e _ h=>(by cases h),fun u L e v c _ h=>(by cases h),fun _=>⟨⟨s,0,0,0⟩,by simp,rfl,rfl⟩,fun x hx=>?_,fun v L e _ h=>(by cases h),?_,by simp⟩
 ·simp at hx;subst hx;exact hs
 ·simp at hx;subst hx;exact .inl ⟨rfl,rfl⟩
 ·simp at hx;subst hx;simp
 ·have:sN E (fun _=>none)=E.length:=by simp[sN]
  omega
theorem DI.done{n s B:Nat}{o:mc}{pu:Nat}(h:DI E n s B o pu [])(hE:∀y∈E,y.f<n∧y.t<n∧y.c≤B){v:Nat}(hv:v<n):match o v with
 |some (L,_)=>L≤B*n∧E7 E s v L∧∀L',E7 E s v L'→L≤L'
 |none=>∀L',¬E7 E s v L':=by
 cases ho:o v with
 |some l=>obtain⟨L,e⟩:=l;exact⟨(h.XN v L e hv ho).1,h.kr v L e hv ho⟩
 |none=>
  intro L' hL
  obtain⟨x,hx,_⟩:=h.least (fun y hy=>⟨(hE y hy).1,(hE y hy).2.1⟩) ho hL
  cases hx
end Go.Ab.Nw
namespace Go.Ab.Nw
set_option maxRecDepth 100000
set_option linter.unusedVariables false
set_option linter.unusedSimpArgs false
def Nd.pv(x:Nd):PV:=.agg [.int .i64 x.n,.int .i64 x.len,.int .i64 x.e,.int .i64 x.num]
abbrev lS(a:List Nd):List PV:=a.map Nd.pv
theorem nd0(x:Nd):cell x.pv 0=.int .i64 x.n:=rfl
theorem nd1(x:Nd):cell x.pv 1=.int .i64 x.len:=rfl
theorem nd2(x:Nd):cell x.pv 2=.int .i64 x.e:=rfl
theorem nd3(x:Nd):cell x.pv 3=.int .i64 x.num:=rfl
theorem ndE(x:Nd):PV.agg [cell x.pv 0,cell x.pv 1,cell x.pv 2,cell x.pv 3]=x.pv:=rfl
theorem eI{a:List Nd}{i:Nat}(h:i<a.length):(lS a)[i]?=some (dG a i).pv:=by rw[List.getElem?_map,E5 h];rfl
theorem aaE(a b c:PV):cell (.agg [a,b,c]) 0=a:=rfl
theorem XP(a b c:PV):cell (.agg [a,b,c]) 1=b:=rfl
theorem aaF(a b c:PV):cell (.agg [a,b,c]) 2=c:=rfl
theorem ag3(a b c:PV):asAgg 3 (.agg [a,b,c])=some ():=rfl
theorem UJ(a b:Nd):ec [.agg [cell a.pv 0,cell a.pv 1,cell a.pv 2],.agg [cell b.pv 0,cell b.pv 1,cell b.pv 2]]=some (.bool (decide (a.len<b.len∨(a.len=b.len∧a.e<b.e)))):=by
 simp only[ec,qE,ag3,aaE,XP,aaF,nd0,nd1,nd2,if_true,U,asInt];by_cases h1:a.len<b.len
 ·simp[h1]
 ·by_cases h2:a.len=b.len
  ·simp[h2]
  ·have:((a.len:Int)==(b.len:Int))=false:=by rw[beq_eq_false_iff_ne];omega
   simp[h1,h2,this]
theorem rE(a:List Nd)(pu:Nat)(i k:Nat)(hi:i<a.length)(hk:k<a.length):aD [.rp [.fn 123 [],.rs 4 (lS a),.int .i64 pu],.int .i64 i,.int .i64 k]=some (.bool (AF (dG a i) (dG a k))):=by
 have e0:ab 4 (PV.rs 4 (lS a))=some (lS a):=by simp[ab]
 simp only[aD,eh,XP,aaF,e0,U,asInt,if_true,az,eI hi,eI hk,UJ,asBool,nd3];generalize dG a i=x;generalize dG a k=y;unfold AF;by_cases h1:x.len<y.len∨(x.len=y.len∧x.e<y.e)
 ·have:(x.len<y.len∨(x.len=y.len∧(x.e<y.e∨(x.e=y.e∧x.num<y.num)))):=by omega
  simp[h1,this]
 ·by_cases h2:y.len<x.len∨(y.len=x.len∧y.e<x.e)
  ·have:¬(x.len<y.len∨(x.len=y.len∧(x.e<y.e∨(x.e=y.e∧x.num<y.num)))):=by omega
   simp[h1,h2,this]
  ·have:(x.len<y.len∨(x.len=y.len∧(x.e<y.e∨(x.e=y.e∧x.num<y.num))))↔x.num<y.num:=by omega
   simp[h1,h2,this]
theorem half(i:Nat)(h:0<i)(hi:i<4611686018427387904):IntKind.i64.wrap ((IntKind.i64.wrap ((i:Int)-1)).tdiv 2)=(((i-1)/2:Nat):Int):=by
 have e1:IntKind.i64.wrap ((i:Int)-1)=((i-1:Nat):Int):=by rw[fy (by omega) (by omega)];omega
 have e2:((i-1:Nat):Int).tdiv 2=(((i-1)/2:Nat):Int):=rfl;rw[e1,e2,fy (by omega) (by omega)]
theorem AH{i:Nat}{es:List PV}(h:i<es.length):af (i:Int) es.length:=⟨by omega,by omega⟩
theorem E8(a:List Nd)(i k:Nat):((lS a).set i (dG a k).pv).set k (dG a i).pv=lS (swp a i k):=by simp[swp,List.map_set]
theorem M9(pk:Y6→Option PV)(t1:PV)(es:List PV)(ln ix:Int)(pu:Nat)(out:List PV)(x0 x1 x2:PV):∀(f N:Nat)(a:List Nd)(i:Nat),i<f→f≤N→i<a.length→a.length<4611686018427387904→cF (ku pk) N ((i:Int),t1,es,ln,ix,(pu:Int),out,x0,x1,x2,lS a,())=pk (t1,es,ln,IntKind.i64.wrap (ix+1),out,(pu:Int),x0,x1,x2,lS (up f a i),())
 |0,_,_,_,h,_,_,_=>by omega
 |f+1,0,_,_,_,h,_,_=>by omega
 |f+1,N+1,a,i,hf,hN,hi,ha=>by
  simp only[cF];unfold ku up;by_cases h0:0<i
  ·have hp:(i-1)/2<a.length:=by omega
   have hg:decide ((i:Int)>0)=true:=by simp;omega
   simp only[hg,cond_true,half i h0 (by omega),rE a pu i ((i-1)/2) hi hp,U,asBool];by_cases hb:AF (dG a i) (dG a ((i-1)/2))=true
   ·have hl1:i<(lS a).length:=by simpa using hi
    have hl2:(i-1)/2<(lS a).length:=by simpa using hp
    have hl3:(i-1)/2<((lS a).set i (dG a ((i-1)/2)).pv).length:=by simpa using hp
    have DP:((lS a).set i (dG a ((i-1)/2)).pv)[(i-1)/2]?=some (dG a ((i-1)/2)).pv:=by rw[List.getElem?_set];rw[if_neg (by omega),eI hp]
    simp only[hb,if_true,if_pos (AH hl1),if_pos (AH hl2),if_pos (AH hl3),Int.toNat_natCast,eI hi,eI hp,U,ndE,DP,E8,h0,and_self];exact M9 pk t1 es ln ix pu out x0 x1 x2 f N (swp a i ((i-1)/2)) ((i-1)/2) (by omega) (by omega) (by rw[gO];exact hp) (by rw[gO];exact ha)
   ·simp only[hb,Bool.false_eq_true,if_false,and_false]
  ·have hg:decide ((i:Int)>0)=false:=by simp;omega
   simp only[hg,cond_false,U,Bool.false_eq_true,if_false,h0,false_and]
end Go.Ab.Nw
namespace Go.Ab.Nw
set_option maxRecDepth 100000
set_option linter.unusedVariables false
set_option linter.unusedSimpArgs false
def pZ(v:Nat):Y5→PV
 |none=>.agg [.int .i64 v,.int .i64 (-1),.int .i64 (-1)]
 |some (L,e)=>.agg [.int .i64 v,.int .i64 (L:Int),.int .i64 (e:Int)]
def dM(n:Nat)(o:mc):List PV:=(List.range n).map fun v=>pZ v (o v)
def Ed.pv(y:Ed):PV:=.agg [.int .i64 y.f,.int .i64 y.t,.int .i64 y.c]
theorem nV(n:Nat)(o:mc):(dM n o).length=n:=by simp[dM]
theorem nW{n v:Nat}(o:mc)(h:v<n):(dM n o)[v]?=some (pZ v (o v)):=by simp[dM,h]
theorem O4{n v:Nat}(o:mc)(l:Nat×Nat)(h:v<n):(dM n o).set v (pZ v (some l))=dM n (uq o v (some l)):=by
 apply List.ext_getElem?;intro i;rw[List.getElem?_set];by_cases e:v=i
 ·subst e;rw[if_pos rfl,if_pos (by rw[nV];exact h),nW _ h];simp[uq]
 ·rw[if_neg e];by_cases hi:i<n
  ·rw[nW _ hi,nW _ hi];simp[uq,Ne.symm e]
  ·rw[List.getElem?_eq_none (by rw[nV];omega),List.getElem?_eq_none (by rw[nV];omega)]
theorem aaG(v:Nat)(l:Y5):∃z:Int,asInt .i64 (cell (pZ v l) 2)=some z∧(decide (z<0)=l.isNone)∧decide (z≥0)=l.isSome:=by
 cases l with
 |none=>exact⟨-1,rfl,rfl,rfl⟩
 |some p=>obtain⟨L,e⟩:=p;exact⟨e,rfl,by simp,by simp⟩
theorem ed1(y:Ed):cell y.pv 1=.int .i64 y.t:=rfl
theorem ed2(y:Ed):cell y.pv 2=.int .i64 y.c:=rfl
theorem CI(n:Int):asInt .i64 (.int .i64 n)=some n:=by simp[asInt]
theorem DQ(dm:PV×List PV×Int×List PV×Unit→Option PV)(t1:PV)(n:Nat)(o:mc)(x:Nd)(es:List Ed)(ht:∀z∈es,z.t<n)(hn:n<4294967296)(hx:x.len<4611686018427387904)(hxe:x.e<4611686018427387904)(hc:∀z∈es,z.c<4611686018427387904)(CH:es.length<4611686018427387904):∀(m N k pu:Nat)(H:List Nd),m+k=es.length→m<N→pu+m<4294967296→H.length+m<4294967296→cF (da cd dm) N (t1,es.map Ed.pv,((es.length:Nat):Int),(k:Int),dM n o,(pu:Int),.int .i64 x.n,.int .i64 x.len,.int .i64 x.e,lS H,())=dm (t1,dM n o,((lT o x (es.drop k) pu H).1:Int),lS (lT o x (es.drop k) pu H).2,())
 |_,0,_,_,_,_,h,_,_=>by omega
 |0,N+1,k,pu,H,hk,hN,hpu,hH=>by
  simp only[cF];unfold da;dsimp only;have hg:decide ((k:Int)<((es.length:Nat):Int))=false:=by simp;omega
  rw[hg,List.drop_eq_nil_of_le (by omega)];rfl
 |m+1,N+1,k,pu,H,hk,hN,hpu,hH=>by
  have ih:=DQ dm t1 n o x es ht hn hx hxe hc CH m N (k+1);simp only[cF];generalize cF (da cd dm) N=rec at ih⊢;unfold da;dsimp only;have kK:k<es.length:=by omega
  have hg:decide ((k:Int)<((es.length:Nat):Int))=true:=by simp;omega
  obtain⟨z,hz⟩:∃z,es[k]?=some z:=⟨_,List.getElem?_eq_getElem kK⟩;have hzm:z∈es:=List.mem_of_getElem? hz;have hzt:=ht z hzm;have CP:(es.map Ed.pv)[k]?=some z.pv:=by rw[List.getElem?_map,hz];rfl
  have aaH:es.drop k=z::es.drop (k+1):=by rw[List.drop_eq_getElem_cons kK];have:=List.getElem?_eq_getElem kK;rw[hz]at this;rw[Option.some.inj this]
  obtain⟨w,w1,w2,w3⟩:=aaG z.t (o z.t);have pS:af (z.t:Int) (dM n o).length:=AH (by rw[nV];exact hzt);rw[aaH,lT];simp only[hg,if_true,az,CP,U,ed1,ed2,CI,if_pos pS,Int.toNat_natCast,nW o hzt,w1,w2];by_cases yr:(o z.t).isNone=true
  ·have e1:IntKind.i64.wrap ((x.len:Int)+(z.c:Int))=((x.len+z.c:Nat):Int):=by have:=hc z hzm;rw[fy (by omega) (by omega)];omega
   have e2:lS H++[PV.agg [.int .i64 z.t,.int .i64 ((x.len+z.c:Nat):Int),.int .i64 ((x.e+1:Nat):Int),.int .i64 pu]]=lS (H++[⟨z.t,x.len+z.c,x.e+1,pu⟩]):=by simp[lS,Nd.pv]
   have e3:(lS (H++[⟨z.t,x.len+z.c,x.e+1,pu⟩])).length=H.length+1:=by simp
   have e4:IntKind.i64.wrap (((H.length+1:Nat):Int)-1)=(H.length:Int):=by rw[fy (by omega) (by omega)];omega
   have eu:(H.length+1)*32≤aa∧0<32:=by unfold aa;omega
   simp only[yr,if_true,e1,an (show x.e<9223372036854775807 by omega),e2,e3,e4,if_pos eu,an (show pu<9223372036854775807 by omega),kQ];refine(M9 rec t1 (es.map Ed.pv) ((es.length:Nat):Int) (k:Int) (pu+1) (dM n o) _ _ _ (H.length+1) rounds (H++[⟨z.t,x.len+z.c,x.e+1,pu⟩]) H.length (by omega) (by unfold rounds;omega) (by simp) (by simp;omega)).trans ?_;rw[an (by omega)];rw[show up (H.length+1) (H++[⟨z.t,x.len+z.c,x.e+1,pu⟩]) H.length=push H ⟨z.t,x.len+z.c,x.e+1,pu⟩from rfl];refine ih (pu+1) _ (by omega) (by omega) (by omega) ?_;have:(push H ⟨z.t,x.len+z.c,x.e+1,pu⟩).length=H.length+1:=by
    unfold push;have key:∀(f:Nat)(a:List Nd)(i:Nat),(up f a i).length=a.length:=by
     intro f;induction f with
     |zero=>intro a i;rfl
     |succ f ih=>
      intro a i;unfold up;split
      ·rw[ih,gO]
      ·rfl
    rw[key];simp
   omega
  ·simp only[yr,Bool.false_eq_true,if_false,an (show k<9223372036854775807 by omega)];exact ih pu H (by omega) (by omega) (by omega) (by omega)
end Go.Ab.Nw
namespace Go.Ab.Nw
set_option maxRecDepth 100000
set_option linter.unusedVariables false
set_option linter.unusedSimpArgs false
structure Gr(E:List Ed)(n:Nat)(ks vs:List PV):Prop where
 small:n<4294967296
 len:E.length<1073741824
 node:∀y∈E,y.f<n∧y.t<n∧y.c≤1073741824
 look:∀v:Nat,v<n→ab 3 (dL (.int .i64 v) (.rs 0 []) (ks.zip vs))=some ((E.filter fun y=>y.f==v).map Ed.pv)
section
variable {E:List Ed} {n:Nat} {ks vs:List PV}
def labelled(o:mc)(x:Nd):mc:=uq o x.n (some (x.len,x.e))
def KR(dm:PV×List PV×Int×List PV×Unit→Option PV)(E:List Ed)(n:Nat)(ks vs:List PV)(o:mc)(x:Nd)(pu:Nat)(H:List Nd):Option PV:=
 if(o x.n).isSome=true then dm (.rm 3 ks vs,dM n o,(pu:Int),lS H,())
 else dm (.rm 3 ks vs,dM n (labelled o x),((lT (labelled o x) x (E.filter fun y=>y.f==x.n) pu H).1:Int),lS (lT (labelled o x) x (E.filter fun y=>y.f==x.n) pu H).2,())
structure Sm(n:Nat)(E:List Ed)(x:Nd)(pu:Nat)(H:List Nd):Prop where
 node:x.n<n
 len:x.len<4611686018427387904
 e:x.e<4611686018427387904
 pu:pu≤1073741824
 H:H.length≤1073741824
theorem vd(hG:Gr E n ks vs)(dm:PV×List PV×Int×List PV×Unit→Option PV)(o:mc)(x:Nd)(pu:Nat)(H:List Nd)(hS:Sm n E x pu H)(A:Int→PV→Int→Option PV):((asInt .i64 (.int .i64 x.n)).bind fun n23=>if af n23 (dM n o).length then(dM n o)[n23.toNat]?.bind fun e24=>(asInt .i64 (cell e24 2)).bind fun n25=>if decide (n25≥0)=true then dm (.rm 3 ks vs,dM n o,(pu:Int),lS H,())else(asInt .i64 (.int .i64 x.n)).bind fun n26=>if af n26 (dM n o).length then(dM n o)[n26.toNat]?.bind fun Tr=>(asInt .i64 (.int .i64 x.n)).bind fun n28=>dQ 3 (.rm 3 ks vs) (A n26 Tr n28) fun XQ E9=>(ab 3 (dL (.int .i64 n28) (.rs 0 []) (XQ.zip E9))).bind fun R3=>cd.run (da cd dm) (.rm 3 ks vs,R3,(R3.length:Int),0,(dM n o).set n26.toNat (.agg [.int .i64 x.n,.int .i64 x.len,.int .i64 x.e]),(pu:Int),.int .i64 x.n,.int .i64 x.len,.int .i64 x.e,lS H,())else none else none)=KR dm E n ks vs o x pu H:=by
 have pS:af (x.n:Int) (dM n o).length:=AH (by rw[nV];exact hS.node)
 obtain⟨w,w1,w2,w3⟩:=aaG x.n (o x.n)
 simp only[CI,U,if_pos pS,Int.toNat_natCast,nW o hS.node,w1,w3,dQ,if_true,hG.look x.n hS.node,kQ]
 unfold KR
 by_cases hs:(o x.n).isSome=true
 ·simp only[hs,if_true]
 ·simp only[hs,Bool.false_eq_true,if_false];have e1:(dM n o).set x.n (.agg [.int .i64 x.n,.int .i64 x.len,.int .i64 x.e])=dM n (labelled o x):=O4 o (x.len,x.e) hS.node;rw[e1];have hl:(E.filter fun y=>y.f==x.n).length≤E.length:=List.length_filter_le ..;have bO:∀z∈E.filter (fun y=>y.f==x.n),z∈E:=fun z hz=>(List.mem_filter.1 hz).1;have h1:=hG.len;have h2:=hS.pu;have h3:=hS.H;have:=DQ dm (.rm 3 ks vs) n (labelled o x) x (E.filter fun y=>y.f==x.n) (fun z hz=>(hG.node z (bO z hz)).2.1) hG.small hS.len hS.e (fun z hz=>by have:=(hG.node z (bO z hz)).2.2;omega) (by omega) (E.filter fun y=>y.f==x.n).length rounds 0 pu H (by omega) (by unfold rounds;omega) (by omega) (by omega);rw[List.drop_zero]at this;simpa using this
theorem R4{a:List Nd}{i:Nat}(h:2*i+1+1<a.length∧AF (dG a (2*i+1+1)) (dG a (2*i+1))=true):DO a i=2*i+1+1:=if_pos h
theorem O5{a:List Nd}{i:Nat}(h:¬(2*i+1+1<a.length∧AF (dG a (2*i+1+1)) (dG a (2*i+1))=true)):DO a i=2*i+1:=if_neg h
theorem DR(hG:Gr E n ks vs)(dm:PV×List PV×Int×List PV×Unit→Option PV)(o:mc)(x:Nd)(pu:Nat)(z1 z2 z3:Int):∀(f N:Nat)(a:List Nd)(i:Nat),a.length≤f+i→f<N→i<4294967296→Sm n E x pu a→cF (dX cd dm) N ((i:Int),.rm 3 ks vs,(pu:Int),z1,z2,z3,.int .i64 x.n,.int .i64 x.len,.int .i64 x.e,dM n o,lS a,())=KR dm E n ks vs o x pu (down f a i)
 |_,0,_,_,_,h,_,_=>by omega
 |0,N+1,a,i,hf,hN,hi,hS=>by
  simp only[cF];generalize cF (dX cd dm) N=rec;unfold dX down;dsimp only;have e1:IntKind.i64.wrap (IntKind.i64.wrap (2*(i:Int))+1)=((2*i+1:Nat):Int):=by rw[fy (x:=2*(i:Int)) (by omega) (by omega),fy (by omega) (by omega)];omega
  have hg:decide (((2*i+1:Nat):Int)≥((lS a).length:Int))=true:=by simp;omega
  rw[e1,if_pos hg];exact vd hG dm o x pu a hS _
 |f+1,N+1,a,i,hf,hN,hi,hS=>by
  have ih:=DR hG dm o x pu z1 z2 z3 f N;simp only[cF];generalize cF (dX cd dm) N=rec at ih⊢;have e1:IntKind.i64.wrap (IntKind.i64.wrap (2*(i:Int))+1)=((2*i+1:Nat):Int):=by rw[fy (x:=2*(i:Int)) (by omega) (by omega),fy (by omega) (by omega)];omega
  have e2:IntKind.i64.wrap (((2*i+1:Nat):Int)+1)=((2*i+1+1:Nat):Int):=an (by omega);unfold dX down;dsimp only;rw[e1,e2];by_cases hl:a.length≤2*i+1
  ·have hg:decide (((2*i+1:Nat):Int)≥((lS a).length:Int))=true:=by simp;omega
   rw[if_pos hg,if_pos hl];exact vd hG dm o x pu a hS _
  ·have hg:¬decide (((2*i+1:Nat):Int)≥((lS a).length:Int))=true:=by simp;omega
   rw[if_neg hg,if_neg hl];have hlen:=hS.H;have mV:i<a.length:=by omega
   have Xo:i<(lS a).length:=by simpa using mV
   obtain⟨k1,k2,_⟩:=RZ hl;have Ob:DO a i<(lS a).length:=by simpa using k1
   have Y2:DO a i<((lS a).set i (dG a (DO a i)).pv).length:=by simpa using k1
   have DP:((lS a).set i (dG a (DO a i)).pv)[DO a i]?=some (dG a (DO a i)).pv:=by rw[List.getElem?_set,if_neg (by omega),eI k1]
   have fin:=ih (swp a i (DO a i)) (DO a i) (by rw[gO];omega) (by omega) (by omega) ⟨hS.node,hS.len,hS.e,hS.pu,by rw[gO];exact hS.H⟩;by_cases hc:2*i+1+1<a.length∧AF (dG a (2*i+1+1)) (dG a (2*i+1))=true
   ·have hk:=R4 hc;have hd:decide (((2*i+1+1:Nat):Int)<((lS a).length:Int))=true:=by simp;omega
    rw[hd];rw[hk]at Ob Y2 DP fin k1⊢;simp only[cond_true,rE a pu (2*i+1+1) (2*i+1) (by omega) (by omega),hc.2,U,asBool,if_true,rE a pu (2*i+1+1) i k1 mV];by_cases hb:AF (dG a (2*i+1+1)) (dG a i)=true
    ·rw[if_pos hb]at*;simp only[hb,Bool.not_true,Bool.false_eq_true,if_false,if_pos (AH Xo),if_pos (AH Ob),if_pos (AH Y2),Int.toNat_natCast,eI mV,eI k1,U,ndE,DP,E8];exact fin
    ·rw[if_neg hb];have fP:(!AF (dG a (2*i+1+1)) (dG a i))=true:=by simpa using hb
     rw[if_pos fP];exact vd hG dm o x pu a hS _
   ·have hk:=O5 hc;have hd:(bif decide (((2*i+1+1:Nat):Int)<((lS a).length:Int))then(aD [.rp [.fn 123 [],.rs 4 (lS a),.int .i64 (pu:Int)],.int .i64 ((2*i+1+1:Nat):Int),.int .i64 ((2*i+1:Nat):Int)]).bind fun r53=>(asBool r53).bind fun b54=>some b54 else some false)=some false:=by
     by_cases h2:2*i+1+1<a.length
     ·have hd:decide (((2*i+1+1:Nat):Int)<((lS a).length:Int))=true:=by simp;omega
      have hb:AF (dG a (2*i+1+1)) (dG a (2*i+1))=false:=by
       cases hb:AF (dG a (2*i+1+1)) (dG a (2*i+1))with
       |false=>rfl
       |true=>exact absurd ⟨h2,hb⟩ hc
      rw[hd,cond_true,rE a pu (2*i+1+1) (2*i+1) h2 (by omega),U,hb];rfl
     ·have hd:decide (((2*i+1+1:Nat):Int)<((lS a).length:Int))=false:=by simp;omega
      rw[hd];rfl
    rw[hd];rw[hk]at Ob Y2 DP fin k1⊢;simp only[U,asBool,Bool.false_eq_true,if_false,rE a pu (2*i+1) i k1 mV];by_cases hb:AF (dG a (2*i+1)) (dG a i)=true
    ·rw[if_pos hb]at*;simp only[hb,Bool.not_true,Bool.false_eq_true,if_false,if_pos (AH Xo),if_pos (AH Ob),if_pos (AH Y2),Int.toNat_natCast,eI mV,eI k1,U,ndE,DP,E8];exact fin
    ·rw[if_neg hb];have fP:(!AF (dG a (2*i+1)) (dG a i))=true:=by simpa using hb
     rw[if_pos fP];exact vd hG dm o x pu a hS _
end
end Go.Ab.Nw
namespace Go.Ab.Nw
set_option maxRecDepth 100000
set_option linter.unusedVariables false
set_option linter.unusedSimpArgs false
section
variable {E:List Ed} {n:Nat} {ks vs:List PV}
theorem O6(hG:Gr E n ks vs)(dm:PV×List PV×Int×List PV×Unit→Option PV)(o:mc)(pu:Nat)(H:List Nd)(hS:∀x∈H,Sm n E x pu H):dY cd (.rm 3 ks vs,dM n o,(pu:Int),lS H,()) dm=if H.length=0 then some (.rs 3 (dM n o))else KR dm E n ks vs o (dG H 0) pu (rest H):=by
 unfold dY;dsimp only;by_cases h0:H.length=0
 ·have hg:(((lS H).length:Int)==0)=true:=by rw[List.length_map,h0];rfl
  rw[if_pos hg,if_pos h0]
 ·have hg:¬(((lS H).length:Int)==0)=true:=by simp;intro h;exact h0 (by rw[h];rfl)
  rw[if_neg hg,if_neg h0];have hx:dG H 0∈H:=yN.2 ⟨0,by omega,rfl⟩;have W9:=hS _ hx;have hH:=W9.H;have hl:((lS H).length:Int)=(H.length:Int):=by simp
  have e1:IntKind.i64.wrap ((H.length:Int)-1)=((H.length-1:Nat):Int):=by rw[fy (by omega) (by omega)];omega
  have i0:af (0:Int) (lS H).length:=AH (i:=0) (by simp;omega);have hl1:H.length-1<(lS H).length:=by simp;omega
  have hl3:H.length-1<((lS H).set 0 (dG H (H.length-1)).pv).length:=by simp;omega
  have g0:(lS H)[0]?=some (dG H 0).pv:=eI (by omega);have gl:(lS H)[H.length-1]?=some (dG H (H.length-1)).pv:=eI (by omega);have g3:∃q,((lS H).set 0 (dG H (H.length-1)).pv)[H.length-1]?=some q:=⟨_,List.getElem?_eq_getElem hl3⟩;obtain⟨q,g3⟩:=g3;have z0:Int.toNat 0=0:=rfl;have iQ:(0:Int)≤0∧0≤((H.length-1:Nat):Int)∧((H.length-1:Nat):Int)≤(((((lS H).set 0 (dG H (H.length-1)).pv).set (H.length-1) (dG H 0).pv).length:Nat):Int):=by refine⟨by omega,by omega,?_⟩;simp only[List.length_set,List.length_map];omega
  simp only[hl,e1,if_pos i0,z0,g0,U,if_pos (AH hl1),Int.toNat_natCast,gl,ndE,if_pos (AH hl3),g3,and_true,if_pos iQ,Nat.sub_zero];simp only[nd0,nd1,nd2,E8,←List.map_take,kQ];rw[if_pos (by refine⟨by omega,by omega,?_⟩;simp only[List.length_map,gO];omega)];have:=DR hG dm o (dG H 0) pu 0 0 0 (H.length+1) rounds (KL H) 0 (by simp[KL];omega) (by unfold rounds;omega) (by omega) ⟨W9.node,W9.len,W9.e,W9.pu,by simp[KL];omega⟩;exact this
theorem DI.small{s B:Nat}{o:mc}{pu:Nat}{H:List Nd}(h:DI E n s B o pu H)(hG:Gr E n ks vs)(hB:B≤1073741824)(hn:n≤64):∀x∈H,Sm n E x pu H:=fun x hx=>by have h1:=h.R0 x hx;have h2:=M8 n o;have h3:B*CW n o≤1073741824*64:=Nat.mul_le_mul hB (by omega);have h4:=h.cnt;have h5:=h.XO;have h6:=hG.len;exact⟨h.node x hx,by omega,by omega,by omega,by omega⟩
theorem O7(hG:Gr E n ks vs){s B:Nat}(hs:s<n)(hB:B≤1073741824)(hEB:∀y∈E,y.c≤B)(hn:n≤64):∃o pu,DI E n s B o pu []∧cd.run (dY cd) (.rm 3 ks vs,dM n (fun _=>none),1,[PV.agg [.int .i64 s,.int .i64 0,.int .i64 0,.int .i64 0]],())=some (.rs 3 (dM n o)):=by
 have hE:∀y∈E,y.f<n∧y.t<n∧y.c≤B:=fun y hy=>⟨(hG.node y hy).1,(hG.node y hy).2.1,hEB y hy⟩;have hlen:=hG.len;obtain⟨a,r,hI,⟨h0,hr⟩,lZ⟩:=O3 (body:=dY cd) (A:=mc×Nat×List Nd) (fun a=>(PV.rm 3 ks vs,dM n a.1,(a.2.1:Int),lS a.2.2,())) (fun a=>DI E n s B a.1 a.2.1 a.2.2) (fun a=>a.2.2.length+sN E a.1) (fun a r=>a.2.2=[]∧r=some (.rs 3 (dM n a.1))) (fun a hI dm=>by
  obtain⟨o,pu,H⟩:=a;have hI:DI E n s B o pu H:=hI;dsimp only;rw[O6 hG dm o pu H (hI.small hG hB hn)];by_cases hH:H.length=0
  ·right;rw[if_pos hH];exact⟨_,⟨List.eq_nil_of_length_eq_zero hH,rfl⟩,rfl⟩
  ·left;rw[if_neg hH];have cT:0<H.length:=by omega
   unfold KR;by_cases qY:(o (dG H 0).n).isSome=true
   ·rw[if_pos qY];refine⟨(o,pu,rest H),hI.skip cT qY,?_,rfl⟩;have:=(E6 hI.hp cT).2.1;dsimp only;omega
   ·rw[if_neg qY];have yr:o (dG H 0).n=none:=by simpa using qY
    obtain⟨s1,s2⟩:=hI.settle hE cT yr;exact⟨(_,_,_),s1,s2,rfl⟩) rounds ((fun _=>none),1,[⟨s,0,0,0⟩]) (DI.start hs) (by
  have:sN E (fun _=>none)≤E.length:=List.countP_le_length;simp only[List.length_cons,List.length_nil];unfold rounds;omega)
 obtain⟨o,pu,H⟩:=a;dsimp only at h0 hr hI;subst h0;refine⟨o,pu,hI,?_⟩;rw[kQ,←hr,←lZ];rfl
theorem O8(hG:Gr E n ks vs){s B:Nat}(hs:s<n)(hB:B≤1073741824)(hEB:∀y∈E,y.c≤B)(hn:n≤64):∃o pu,DI E n s B o pu []∧dt [.int .i64 n,.rm 3 ks vs,.int .i64 s]=some (.rs 3 (dM n o)):=by
 obtain⟨o,pu,hI,h⟩:=O7 hG hs hB hEB hn;refine⟨o,pu,hI,?_⟩;have eu:(0:Int)≤(n:Int)∧(n:Int)≤(n:Int)∧n*24≤aa∧0<24∧0<3:=by refine⟨by omega,by omega,?_,by omega,by omega⟩;unfold aa;omega
 simp only[dt,ng,CI,U,dQ,if_true,if_pos eu,Int.toNat_natCast,List.length_replicate];have fill:∀k,k≤n→((List.range n).map fun v=>if v<k then pZ v none else PV.agg [.int .i64 0,.int .i64 0,.int .i64 0]).length=n:=fun k _=>by simp
 refine bL (fun k=>(PV.rm 3 ks vs,(s:Int),(n:Int),(k:Int),(List.range n).map (fun v=>if v<k then pZ v none else PV.agg [.int .i64 0,.int .i64 0,.int .i64 0]),())) n (fun k hk rec=>?_) (fun rec=>?_) (by unfold rounds;omega) ?_
 ·unfold gd;dsimp only;have hg:decide ((k:Int)<(n:Int))=true:=by simp;omega
  have pS:af (k:Int) ((List.range n).map fun v=>if v<k then pZ v none else PV.agg [.int .i64 0,.int .i64 0,.int .i64 0]).length:=AH (by rw[fill k (by omega)];exact hk);have eI:((List.range n).map fun v=>if v<k then pZ v none else PV.agg [.int .i64 0,.int .i64 0,.int .i64 0])[k]?=some (PV.agg [.int .i64 0,.int .i64 0,.int .i64 0]):=by simp[hk]
  have qY:((List.range n).map fun v=>if v<k then pZ v none else PV.agg [.int .i64 0,.int .i64 0,.int .i64 0]).set k (.agg [.int .i64 k,.int .i64 (-1),.int .i64 (-1)])=(List.range n).map fun v=>if v<k+1 then pZ v none else PV.agg [.int .i64 0,.int .i64 0,.int .i64 0]:=by
   apply List.ext_getElem?;intro i;rw[List.getElem?_set];by_cases e:k=i
   ·subst e;simp[hk,pZ]
   ·rw[if_neg e];by_cases hi:i<n
    ·simp only[List.getElem?_map,List.getElem?_range hi,Option.map_some];by_cases h1:i<k
     ·rw[if_pos h1,if_pos (by omega)]
     ·rw[if_neg h1,if_neg (by omega)]
    ·rw[List.getElem?_eq_none (by simp;omega),List.getElem?_eq_none (by simp;omega)]
  rw[if_pos hg,if_pos pS,Int.toNat_natCast,eI,U,qY,an (by omega)]
 ·unfold gd;dsimp only;have hg:¬decide ((n:Int)<(n:Int))=true:=by simp
  have e0:IntKind.i64.wrap ((1:Nat)-1:Int)=0:=by decide
  have e1:IntKind.i64.wrap (0+1)=1:=by decide
  have Ji:((List.range n).map fun v=>if v<n then pZ v none else PV.agg [.int .i64 0,.int .i64 0,.int .i64 0])=dM n (fun _=>none):=by unfold dM;apply List.map_congr_left;intro v hv;rw[if_pos (List.mem_range.1 hv)]
  rw[if_neg hg,Ji,e1];refine Eq.trans ?_ h;have first:∀N,cF (gf cd) (N+1) (IntKind.i64.wrap (((1:Nat):Int)-1),PV.rm 3 ks vs,1,dM n (fun _=>none),[PV.agg [.int .i64 s,.int .i64 0,.int .i64 0,.int .i64 0]],())=cd.run (dY cd) (.rm 3 ks vs,dM n (fun _=>none),1,[PV.agg [.int .i64 s,.int .i64 0,.int .i64 0,.int .i64 0]],()):=fun N=>by
   simp only[cF];generalize cF (gf cd) N=rec;unfold gf;dsimp only;have hg:decide (IntKind.i64.wrap (((1:Nat):Int)-1)>0)=false:=by decide
   rw[hg,cond_false,U,if_neg (by simp)]
  exact first 18446744073709551615
 ·congr 1;have:((List.range n).map fun v=>if v<0 then pZ v none else PV.agg [.int .i64 0,.int .i64 0,.int .i64 0])=List.replicate n (PV.agg [.int .i64 0,.int .i64 0,.int .i64 0]):=by
   apply List.ext_getElem?;intro i;by_cases hi:i<n
   ·simp[hi,List.getElem?_replicate]
   ·rw[List.getElem?_eq_none (by simp;omega),List.getElem?_eq_none (by simp;omega)]
  rw[this];rfl
end
end Go.Ab.Nw
namespace Go.Ab.Nw
set_option maxRecDepth 100000
set_option linter.unusedVariables false
set_option linter.unusedSimpArgs false
theorem UK{S R:Type}{body:S→(S→Option R)→Option R}{s:S}{r:Option R}(h:∀rec,body s rec=r):cd.run body s=r:=bL (fun _=>s) 0 (fun k hk=>by omega) h (by unfold rounds;omega) rfl
def qd(n k:Nat)(F:Nat→PV)(z:PV):List PV:=(List.range n).map fun v=>if v<k then F v else z
theorem Hj(n k:Nat)(F:Nat→PV)(z:PV):(qd n k F z).length=n:=by simp[qd]
theorem Hk{n k:Nat}{F:Nat→PV}{z:PV}(hk:k<n):(qd n k F z)[k]?=some z:=by simp[qd,hk]
theorem Hl{n k:Nat}{F:Nat→PV}{z:PV}(hk:k<n):(qd n k F z).set k (F k)=qd n (k+1) F z:=by
 apply List.ext_getElem?;intro i;rw[List.getElem?_set];by_cases e:k=i
 ·subst e;simp[qd,hk]
 ·rw[if_neg e];unfold qd;by_cases hi:i<n
  ·simp only[List.getElem?_map,List.getElem?_range hi,Option.map_some];by_cases h1:i<k
   ·rw[if_pos h1,if_pos (by omega)]
   ·rw[if_neg h1,if_neg (by omega)]
  ·rw[List.getElem?_eq_none (by simp;omega),List.getElem?_eq_none (by simp;omega)]
theorem DS(n:Nat)(F:Nat→PV)(z:PV):qd n 0 F z=List.replicate n z:=by
 unfold qd;apply List.ext_getElem?;intro i;by_cases hi:i<n
 ·simp[hi,List.getElem?_replicate]
 ·rw[List.getElem?_eq_none (by simp;omega),List.getElem?_eq_none (by simp;omega)]
theorem Hm(n:Nat)(F:Nat→PV)(z:PV):qd n n F z=(List.range n).map F:=by unfold qd;apply List.map_congr_left;intro v hv;rw[if_pos (List.mem_range.1 hv)]
def Fa:Y5→Int
 |none=> -1
 |some (L,_)=>L
theorem aey(v:Nat)(l:Y5):asInt .i64 (cell (pZ v l) 1)=some (Fa l):=by
 cases l with
 |none=>rfl
 |some p=>obtain⟨L,e⟩:=p;rfl
theorem KM(n:Nat)(hn:n≤64)(o:mc):dC [.rs 3 (dM n o)]=some (.rs 1 ((List.range n).map fun v=>.int .i64 (Fa (o v)))):=by
 have e0:ab 3 (.rs 3 (dM n o))=some (dM n o):=by simp[ab]
 have eu:(0:Int)≤((n:Nat):Int)∧((n:Nat):Int)≤((n:Nat):Int)∧n*8≤aa∧0<8∧0<1:=by refine⟨by omega,by omega,?_,by omega,by omega⟩;unfold aa;omega
 simp only[dC,l7,e0,U,nV,Int.toNat_natCast,if_pos eu];refine bL (fun k=>(dM n o,(n:Int),(k:Int),qd n k (fun v=>.int .i64 (Fa (o v))) (.int .i64 0),())) n (fun k hk rec=>?_) (fun rec=>?_) (by unfold rounds;omega) ?_
 ·unfold ju;dsimp only;have hg:decide ((k:Int)<(n:Int))=true:=by simp;omega
  rw[if_pos hg,az,nW o hk,U,aey,U,if_pos (AH (by rw[Hj];exact hk)),Int.toNat_natCast,Hk hk,U,an (by omega)];rw[Hl (F:=fun v=>PV.int .i64 (Fa (o v))) hk]
 ·unfold ju;dsimp only;rw[if_neg (by simp),Hm]
 ·rw[DS];rfl
theorem R5(i n:Nat)(h:i<n):cC [.int .i64 i,.rp [.int .i64 n]]=some (.bool false):=by
 have h1:decide ((i:Int)<0)=false:=by simp
 have h2:decide ((i:Int)≥(n:Int))=false:=by simp;omega
 simp only[cC,l6,CI,U,h1,cond_false,h2]
theorem ed0(y:Ed):cell y.pv 0=.int .i64 y.f:=rfl
theorem R6(E:List Ed)(n:Nat)(hn:n≤64)(hE:E.length≤4096)(h:∀y∈E,y.f<n∧y.t<n∧y.c≤1073741824):eC [.int .i64 n,.rs 3 (E.map Ed.pv),.rs 0 []]=some (.int .i64 0):=by
 have e0:ab 3 (.rs 3 (E.map Ed.pv))=some (E.map Ed.pv):=by simp[ab]
 have e1:ab 1 (.rs 0 [])=some []:=by simp[ab]
 have h1:decide ((n:Int)<0)=false:=by simp
 have h2:decide ((n:Int)>64)=false:=by simp;omega
 have h3:¬decide (((E.map Ed.pv).length:Int)>4096)=true:=by simp;omega
 simp only[eC,oO,CI,e0,e1,U,h1,h2,cond_false,Bool.false_eq_true,if_false,if_neg h3];refine bL (fun k=>(([]:List PV),E.map Ed.pv,((E.map Ed.pv).length:Int),(k:Int),(n:Int),())) E.length (fun k hk rec=>?_) (fun rec=>?_) (by unfold rounds;omega) rfl
 ·unfold lD;dsimp only;have hg:decide ((k:Int)<((E.map Ed.pv).length:Int))=true:=by simp;omega
  obtain⟨z,hz⟩:∃z,E[k]?=some z:=⟨_,List.getElem?_eq_getElem hk⟩;have CP:(E.map Ed.pv)[k]?=some z.pv:=by rw[List.getElem?_map,hz];rfl
  obtain⟨a1,a2,a3⟩:=h z (List.mem_of_getElem? hz);have h4:decide ((z.c:Int)<0)=false:=by simp
  have h5:decide ((z.c:Int)>1073741824)=false:=by simp;omega
  simp only[hg,if_true,az,CP,U,ed0,ed1,ed2,CI,R5 _ _ a1,R5 _ _ a2,asBool,cond_false,Bool.false_eq_true,if_false,h4,h5,an (show k<9223372036854775807 by omega)]
 ·unfold lD;dsimp only;rw[if_neg (by simp)];refine UK fun rec=>?_;unfold qe;dsimp only;rw[if_neg (by simp)]
abbrev Fb:=List (Nat×List Ed)
def Fc(z:Ed):Fb→Fb
 |[]=>[(z.f,[z])]
 |(a,l)::r=>if z.f=a then(a,l++[z])::r else(a,l)::Fc z r
def mP(v:Nat):Fb→List Ed
 |[]=>[]
 |(a,l)::r=>if v=a then l else mP v r
def DT(m:Fb):List (PV×PV):=m.map fun x=>(.int .i64 x.1,.fO 3 (x.2.map Ed.pv))
theorem R7(a b:Nat):cB (PV.int .i64 a).cells (PV.int .i64 b).cells=decide (a=b):=by
 have:((a:Int)==(b:Int))=decide (a=b):=by
  by_cases h:a=b
  ·simp[h]
  ·rw[decide_eq_false h,beq_eq_false_iff_ne];omega
 simp only[PV.cells,cB,peq,Bool.and_true,this]
theorem aaI(v:Nat):∀m:Fb,F0 3 (.int .i64 v) (DT m)=some ((mP v m).map Ed.pv)
 |[]=>rfl
 |(a,l)::r=>by
  have ih:=aaI v r;unfold DT at ih⊢;simp only[List.map_cons,F0,mP,R7];by_cases h:v=a
  ·simp[h,aZ]
  ·simp only[h,decide_false,Bool.false_eq_true,if_false];exact ih
theorem Na(z:Ed):∀m:Fb,eO (.int .i64 z.f) (.fO 3 ((mP z.f m).map Ed.pv++[z.pv])) (pK (.int .i64 z.f) (DT m))=DT (Fc z m)
 |[]=>by simp[DT,pK,eO,Fc,mP]
 |(a,l)::r=>by
  have ih:=Na z r;unfold DT at ih⊢;simp only[List.map_cons,pK,Fc,mP,R7];by_cases h:z.f=a
  ·subst h;simp[eO,R7]
  ·simp only[h,decide_false,Bool.false_eq_true,if_false,eO,R7,List.map_cons];rw[ih]
theorem DU(v:Nat)(z:Ed):∀m:Fb,mP v (Fc z m)=mP v m++(if z.f=v then[z]else[])
 |[]=>by
  simp only[Fc,mP];by_cases h:v=z.f
  ·simp[h]
  ·rw[if_neg h,if_neg fun e=>h e.symm];rfl
 |(a,l)::r=>by
  simp only[Fc];by_cases h:z.f=a
  ·subst h;simp only[if_true,mP];by_cases hv:v=z.f
   ·simp[hv]
   ·rw[if_neg hv,if_neg hv,if_neg fun e=>hv e.symm];simp
  ·rw[if_neg h];simp only[mP];by_cases hv:v=a
   ·subst hv;rw[if_pos rfl,if_pos rfl,if_neg h];simp
   ·rw[if_neg hv,if_neg hv];exact DU v z r
def vj(E:List Ed):Fb:=E.foldl (fun m z=>Fc z m) []
theorem DV(E:List Ed)(z:Ed):vj (E++[z])=Fc z (vj E):=by simp[vj]
theorem DW(v:Nat)(E:List Ed):mP v (vj E)=E.filter fun y=>y.f==v:=by
 rw[←List.reverse_reverse E];induction E.reverse with
 |nil=>rfl
 |cons z l ih=>
  rw[List.reverse_cons,DV,DU,ih,List.filter_append];by_cases h:z.f=v
  ·simp[h]
  ·simp[h]
theorem aaJ(v:Nat):∀m:Fb,ab 3 (dL (.int .i64 v) (.rs 0 []) (((DT m).map fun x=>x.1).zip ((DT m).map fun x=>x.2.lW)))=some ((mP v m).map Ed.pv)
 |[]=>by simp[DT,dL,ab,mP]
 |(a,l)::r=>by
  have ih:=aaJ v r;unfold DT at ih⊢;simp only[List.map_cons,List.zip_cons_cons,dL,R7,mP];by_cases h:v=a
  ·simp[h,PV.lW,ab]
  ·simp only[h,decide_false,Bool.false_eq_true,if_false];exact ih
theorem Fe(E:List Ed)(hE:E.length≤4096):c8 [.rs 3 (E.map Ed.pv),.bool false]=some (.rm 3 ((DT (vj E)).map fun x=>x.1) ((DT (vj E)).map fun x=>x.2.lW)):=by
 have e0:ab 3 (.rs 3 (E.map Ed.pv))=some (E.map Ed.pv):=by simp[ab]
 simp only[c8,kc,e0,U,asBool];refine bL (fun k=>(false,E.map Ed.pv,((E.map Ed.pv).length:Int),(k:Int),DT (vj (E.take k)),())) E.length (fun k hk rec=>?_) (fun rec=>?_) (by unfold rounds;omega) (by simp[vj,DT])
 ·unfold ij;dsimp only;have hg:decide ((k:Int)<((E.map Ed.pv).length:Int))=true:=by simp;omega
  obtain⟨z,hz⟩:∃z,E[k]?=some z:=⟨_,List.getElem?_eq_getElem hk⟩;have CP:(E.map Ed.pv)[k]?=some z.pv:=by rw[List.getElem?_map,hz];rfl
  have htk:E.take (k+1)=E.take k++[z]:=by rw[List.take_add_one,hz];rfl
  have Vs:PV.agg [cell z.pv 0,cell z.pv 1,cell z.pv 2]=z.pv:=rfl;have hlen:((mP z.f (vj (E.take k))).map Ed.pv++[z.pv]).length*24≤aa∧0<24:=by
   have:(mP z.f (vj (E.take k))).length≤E.length:=by rw[DW];exact Nat.le_trans (List.length_filter_le ..) (by rw[List.length_take];omega)
   simp only[List.length_append,List.length_map,List.length_cons,List.length_nil];unfold aa;omega
  rw[if_pos hg,az,CP,U,if_neg (by simp)];have aez:PV.agg [.int .i64 z.f,cell z.pv 1,cell z.pv 2]=z.pv:=rfl;simp only[ed0,CI,U,aaI,aez,if_pos hlen];rw[Na,htk,DV,an (by omega)]
 ·unfold ij;dsimp only;rw[if_neg (by simp),List.take_length]
theorem R8(E:List Ed)(n:Nat)(hn:n≤64)(hE:E.length≤4096)(h:∀y∈E,y.f<n∧y.t<n∧y.c≤1073741824):Gr E n ((DT (vj E)).map fun x=>x.1) ((DT (vj E)).map fun x=>x.2.lW):=⟨by omega,by omega,h,fun v _=>by rw[aaJ,DW]⟩
end Go.Ab.Nw
