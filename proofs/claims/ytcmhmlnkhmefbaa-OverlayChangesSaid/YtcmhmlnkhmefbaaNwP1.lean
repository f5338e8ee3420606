import Derived.Test.YtcmhmlnkhmefbaaAbLib
import Derived.Test.YtcmhmlnkhmefbaaSh2
namespace Go.Ab.Nw
section
variable (w:Nat→Nat→Nat→Prop)
def xD:Nat→Nat→Nat→Nat→Prop
 |0,i,j,L=>w i j L
 |k+1,i,j,L=>xD k i j L∨∃A B,xD k i k A∧xD k k j B∧L=A+B
inductive iH:Nat→Nat→Nat→Prop
 |zN {i j c:Nat}:w i j c→iH i j c
 |snoc {i m j A c:Nat}:iH i m A→w m j c→iH i j (A+c)
end
section
variable {w:Nat→Nat→Nat→Prop}
variable{i j L:Nat}
theorem xD.up{k:Nat}(h:xD w k i j L):xD w (k+1) i j L:=.inl h
theorem xD.le{k k':Nat}(hk:k≤k')(h:xD w k i j L):xD w k' i j L:=by
 induction hk with
 |refl=>exact h
 |step _ ih=>exact ih.up
theorem uI:∀(k:Nat){m i j A B:Nat},m<k→xD w k i m A→xD w k m j B→∃C,C≤A+B∧xD w k i j C
 |0,_,_,_,_,_,h,_,_=>by omega
 |k+1,m,i,j,A,B,h,ha,hb=>by
  by_cases hm:m=k
  ·subst hm;have h1:∃A',A'≤A∧xD w m i m A':=by
    rcases ha with ha|⟨X,Y,x,y,e⟩
    ·exact⟨A,Nat.le_refl _,ha⟩
    ·exact⟨X,by omega,x⟩
   have h2:∃B',B'≤B∧xD w m m j B':=by
    rcases hb with hb|⟨X,Y,x,y,e⟩
    ·exact⟨B,Nat.le_refl _,hb⟩
    ·exact⟨Y,by omega,y⟩
   obtain⟨A',a1,a2⟩:=h1;obtain⟨B',b1,b2⟩:=h2;exact⟨A'+B',by omega,.inr ⟨A',B',a2,b2,rfl⟩⟩
  ·have ba:m<k:=by omega
   rcases ha with ha|⟨X,Y,x,y,e⟩
   ·rcases hb with hb|⟨X',Y',x',y',e'⟩
    ·obtain⟨C,c1,c2⟩:=uI k ba ha hb;exact⟨C,c1,.inl c2⟩
    ·obtain⟨C,c1,c2⟩:=uI k ba ha x';exact⟨C+Y',by omega,.inr ⟨C,Y',c2,y',rfl⟩⟩
   ·rcases hb with hb|⟨X',Y',x',y',e'⟩
    ·obtain⟨C,c1,c2⟩:=uI k ba y hb;exact⟨X+C,by omega,.inr ⟨X,C,x,c2,rfl⟩⟩
    ·exact⟨X+Y',by omega,.inr ⟨X,Y',x,y',rfl⟩⟩
theorem iH.join{m A B:Nat}(h1:iH w i m A)(h2:iH w m j B):iH w i j (A+B):=by
 induction h2 with
 |zN h=>exact .snoc h1 h
 |snoc _ h ih=>rw[←Nat.add_assoc];exact .snoc ih h
theorem xD.walk:∀{k i j L:Nat},xD w k i j L→iH w i j L
 |0,_,_,_,h=>.zN h
 |k+1,i,j,L,.inl h=>xD.walk (k:=k) h
 |k+1,i,j,L,.inr ⟨A,B,h1,h2,e⟩=>by rw[e];exact(xD.walk (k:=k) h1).join (xD.walk (k:=k) h2)
theorem iH.via{n:Nat}(hn:∀i j c,w i j c→i<n)(h:iH w i j L):∃C,C≤L∧xD w n i j C:=by
 induction h with
 |zN h=>exact⟨_,Nat.le_refl _,xD.le (Nat.zero_le _) (show xD w 0 _ _ _ from h)⟩
 |snoc _ h ih=>obtain⟨C,c1,c2⟩:=ih;obtain⟨D,d1,d2⟩:=uI n (hn _ _ _ h) c2 (xD.le (Nat.zero_le _) (show xD w 0 _ _ _ from h));exact⟨D,by omega,d2⟩
variable{w':Nat→Nat→Nat→Prop}
theorem iH.mono(hw:∀i j c,w i j c→w' i j c)(h:iH w i j L):iH w' i j L:=by
 induction h with
 |zN h=>exact .zN (hw _ _ _ h)
 |snoc _ h ih=>exact .snoc ih (hw _ _ _ h)
theorem iH.leq(hw:∀i j c,w i j c→∃c',c'≤c∧w' i j c')(h:iH w i j L):∃L',L'≤L∧iH w' i j L':=by
 induction h with
 |zN h=>obtain⟨c',h1,h2⟩:=hw _ _ _ h;exact⟨c',h1,.zN h2⟩
 |snoc _ h ih=>obtain⟨c',h1,h2⟩:=hw _ _ _ h;obtain⟨L',l1,l2⟩:=ih;exact⟨L'+c',by omega,.snoc l2 h2⟩
def JD(w:Nat→Nat→Nat→Prop)(i j:Nat)(o:Option Nat):Prop:=match o with
 |some L=>iH w i j L∧∀L',iH w i j L'→L≤L'
 |none=>∀L',¬iH w i j L'
theorem JD.unique{o o':Option Nat}(h:JD w i j o)(h':JD w i j o'):o=o':=by
 cases o with
 |none=>cases o' with
  |none=>rfl
  |some L=>exact absurd h'.1 (h L)
 |some L=>cases o' with
  |none=>exact absurd h.1 (h' L)
  |some L'=>rw[Nat.le_antisymm (h.2 _ h'.1) (h'.2 _ h.1)]
structure Fw(w:Nat→Nat→Nat→Prop)(inf:Nat)(n:Nat)(d:Nat→Nat→Nat):Prop where
 top:∀i j,i<n→j<n→d i j≤inf
 real:∀i j,i<n→j<n→d i j<inf→iH w i j (d i j)
def nc(w:Nat→Nat→Nat→Prop)(k i j:Nat)(x:Nat):Prop:=∀L,xD w k i j L→x≤L
variable{d:Nat→Nat→Nat}
theorem QJ{inf n k:Nat}(h:Fw w inf n d)(hi:i<n)(hj:j<n)(hk:k<n){x:Nat}(hx:x=min (d i j) (d i k+d k j)){d':Nat→Nat→Nat}(hd:∀a b,d' a b=if a=i∧b=j then x else d a b):Fw w inf n d'∧(∀a b,d' a b≤d a b)∧(nc w k i k (d i k)→nc w k k j (d k j)→nc w k i j (d i j)→nc w (k+1) i j (d' i j)):=by
 refine⟨⟨fun a b ha hb=>?_,fun a b ha hb ba=>?_⟩,fun a b=>?_,fun h1 h2 h3 L hL=>?_⟩
 ·rw[hd];split
  ·have:=h.top i j hi hj;omega
  ·exact h.top a b ha hb
 ·rw[hd]at ba⊢;split
  ·rename_i e;rw[if_pos e]at ba;obtain⟨rfl,rfl⟩:=e;by_cases hm:d a b≤d a k+d k b
   ·rw[show x=d a b by omega]at ba⊢;exact h.real a b ha hb ba
   ·have e2:x=d a k+d k b:=by omega
    rw[e2]at ba⊢;exact(h.real a k ha hk (by omega)).join (h.real k b hk hb (by omega))
  ·rename_i e;rw[if_neg e]at ba;exact h.real a b ha hb ba
 ·rw[hd];split
  ·rename_i e;obtain⟨rfl,rfl⟩:=e;omega
  ·exact Nat.le_refl _
 ·rw[hd,if_pos ⟨rfl,rfl⟩];rcases hL with hL|⟨A,B,a1,a2,e⟩
  ·have:=h3 _ hL;omega
  ·have:=h1 _ a1;have:=h2 _ a2;omega
theorem QK{inf n:Nat}(hn:∀i j c,w i j c→i<n)(h:Fw w inf n d)(hi:i<n)(hj:j<n)(hb:nc w n i j (d i j))(lE:∀L,(∀L',iH w i j L'→L≤L')→iH w i j L→L<inf):JD w i j (if d i j<inf then some (d i j)else none):=by
 have low:∀L,iH w i j L→d i j≤L:=fun L hL=>by obtain⟨C,c1,c2⟩:=hL.via hn;exact Nat.le_trans (hb C c2) c1
 split
 ·rename_i ba;exact⟨h.real i j hi hj ba,low⟩
 ·rename_i Cq;intro L hL;have key:∀m,(∃L,L≤m∧iH w i j L)→∃L,iH w i j L∧∀L',iH w i j L'→L≤L':=by
   intro m;induction m with
   |zero=>rintro⟨L,hl,hw⟩;exact⟨L,hw,fun L' _=>by omega⟩
   |succ m ih=>
    rintro⟨L,hl,hw⟩;by_cases he:∃L,L≤m∧iH w i j L
    ·exact ih he
    ·refine⟨L,hw,fun L' hw'=>?_⟩;have:¬L'≤m:=fun hle=>he ⟨L',hle,hw'⟩;omega
  obtain⟨L0,h1,h2⟩:=key L ⟨L,Nat.le_refl _,hL⟩;have:=lE L0 h2 h1;have:=low L0 h1;omega
end
end Go.Ab.Nw
namespace Go.Ab.Nw
structure Nd where
 n:Nat
 len:Nat
 e:Nat
 num:Nat
 deriving DecidableEq,Inhabited
def xO(a b:Nd):Bool:=decide (a.len<b.len∨(a.len=b.len∧(a.e<b.e∨(a.e=b.e∧a.num<b.num))))
def pN(a b:Nd):Prop:=xO b a=false
theorem JE(a b:Nd):xO a b=true↔(a.len<b.len∨(a.len=b.len∧(a.e<b.e∨(a.e=b.e∧a.num<b.num)))):=by simp[xO]
theorem uJ(a b:Nd):pN a b↔¬(b.len<a.len∨(b.len=a.len∧(b.e<a.e∨(b.e=a.e∧b.num<a.num)))):=by unfold pN;rw[←JE];simp
theorem v7(a:Nd):pN a a:=by rw[uJ];omega
theorem pO{a b c:Nd}(h:pN a b)(k:pN b c):pN a c:=by rw[uJ]at*;omega
theorem rE{a b:Nd}(h:xO a b=true):pN a b:=by rw[uJ];rw[JE]at h;omega
theorem Oe{a b:Nd}(h:pN a b):a.len≤b.len:=by rw[uJ]at h;omega
def dv(a:List Nd)(i:Nat):Nd:=a.getD i default
variable{a:List Nd}{i:Nat}
theorem CU(h:i<a.length):a[i]?=some (dv a i):=by simp[dv,List.getD,h]
def swp(a:List Nd)(i k:Nat):List Nd:=(a.set i (dv a k)).set k (dv a i)
@[simp] theorem gi(a:List Nd)(i k:Nat):(swp a i k).length=a.length:=by simp[swp]
theorem Of(a:List Nd)(i j:Nat)(x:Nd)(h:i<a.length):dv (a.set i x) j=if j=i then x else dv a j:=by
 unfold dv List.getD;rw[List.getElem?_set];by_cases e:i=j
 ·subst e;simp[h]
 ·rw[if_neg e,if_neg fun h=>e h.symm]
theorem kh(a:List Nd)(i k j:Nat)(hi:i<a.length)(hk:k<a.length):dv (swp a i k) j=if j=k then dv a i else if j=i then dv a k else dv a j:=by unfold swp;rw[Of _ _ _ _ (by simpa using hk),Of _ _ _ _ hi]
theorem v8{x:Nd}:x∈a↔∃i,i<a.length∧dv a i=x:=by
 rw[List.mem_iff_getElem?];constructor
 ·rintro⟨i,h⟩;have hi:=(List.getElem?_eq_some_iff.1 h).1;rw[CU hi]at h;exact⟨i,hi,by simpa using h⟩
 ·rintro⟨i,hi,h⟩;exact⟨i,by rw[CU hi,h]⟩
theorem xP{k:Nat}(hi:i<a.length)(hk:k<a.length)(x:Nd):x∈swp a i k↔x∈a:=by
 rw[v8,v8];constructor
 ·rintro⟨j,hj,h⟩;rw[kh _ _ _ _ hi hk]at h;split at h
  ·exact⟨i,hi,h⟩
  ·split at h
   ·exact⟨k,hk,h⟩
   ·exact⟨j,by simpa using hj,h⟩
 ·rintro⟨j,hj,h⟩;by_cases e1:j=i
  ·subst e1;refine⟨k,by simpa using hk,?_⟩;rw[kh _ _ _ _ hi hk,if_pos rfl,h]
  ·by_cases e2:j=k
   ·subst e2;refine⟨i,by simpa using hi,?_⟩;rw[kh _ _ _ _ hi hk];split
    ·rename_i e;exact absurd e.symm e1
    ·rw[if_pos rfl,h]
   ·exact⟨j,by simpa using hj,by rw[kh _ _ _ _ hi hk,if_neg e2,if_neg e1,h]⟩
def Hp(a:List Nd):Prop:=∀j,0<j→j<a.length→pN (dv a ((j-1)/2)) (dv a j)
theorem Hp.min(h:Hp a):∀j,j<a.length→pN (dv a 0) (dv a j):=by
 intro j;induction j using Nat.strongRecOn with
 |ind j ih=>
  intro hj;by_cases h0:j=0
  ·subst h0;exact v7 _
  ·exact pO (ih ((j-1)/2) (by omega) (by omega)) (h j (by omega) hj)
def QL(a:List Nd)(i:Nat):Prop:=(∀j,0<j→j<a.length→j≠i→pN (dv a ((j-1)/2)) (dv a j))∧∀c,0<c→c<a.length→(c-1)/2=i→0<i→pN (dv a ((i-1)/2)) (dv a c)
theorem QL.done(h:QL a i)(hi:i<a.length)(hs:i=0∨xO (dv a i) (dv a ((i-1)/2))=false):Hp a:=by
 intro j h0 hj;by_cases e:j=i
 ·subst e;rcases hs with hs|hs
  ·omega
  ·exact hs
 ·exact h.1 j h0 hj e
theorem QL.step(h:QL a i)(h0:0<i)(hi:i<a.length)(hb:xO (dv a i) (dv a ((i-1)/2))=true):QL (swp a i ((i-1)/2)) ((i-1)/2):=by
 have hp:(i-1)/2<a.length:=by omega
 have hpi:(i-1)/2<i:=by omega
 obtain⟨p,AA⟩:∃p,p=(i-1)/2:=⟨_,rfl⟩;rw[←AA]at hp hpi hb⊢;have hle:=rE hb;refine⟨fun j j0 hj cq=>?_,fun c c0 hc L2 Ao=>?_⟩
 ·rw[gi]at hj;rw[kh _ _ _ _ hi hp,kh _ _ _ _ hi hp,if_neg cq];by_cases e1:j=i
  ·subst e1;rw[←AA,if_pos rfl,if_pos rfl];exact hle
  ·rw[if_neg e1];by_cases e2:(j-1)/2=p
   ·rw[if_pos e2];have:=h.1 j j0 hj e1;rw[e2]at this;exact pO hle this
   ·rw[if_neg e2];by_cases e3:(j-1)/2=i
    ·rw[if_pos e3];have:=h.2 j j0 hj e3 h0;rw[←AA]at this;exact this
    ·rw[if_neg e3];exact h.1 j j0 hj e1
 ·rw[gi]at hc;have hpp:(p-1)/2≠p∧(p-1)/2≠i:=by omega
  rw[kh _ _ _ _ hi hp,kh _ _ _ _ hi hp,if_neg hpp.1,if_neg hpp.2];have h1:=h.1 p Ao hp (by omega);by_cases e1:c=p
  ·omega
  ·rw[if_neg e1];by_cases e2:c=i
   ·rw[if_pos e2];exact h1
   ·rw[if_neg e2];have:=h.1 c c0 hc e2;rw[L2]at this;exact pO h1 this
theorem QL.start(h:Hp a)(x:Nd):QL (a++[x]) a.length:=by
 have RW:∀j,j<a.length→dv (a++[x]) j=dv a j:=fun j hj=>by simp[dv,List.getD,List.getElem?_append_left hj]
 refine⟨fun j j0 hj cq=>?_,fun c c0 hc L2 h0=>?_⟩
 ·have:j<a.length:=by simp at hj;omega
  rw[RW _ (by omega),RW _ this];exact h j j0 this
 ·simp at hc;omega
def QM(a:List Nd)(i:Nat):Prop:=(∀j,0<j→j<a.length→(j-1)/2≠i→pN (dv a ((j-1)/2)) (dv a j))∧∀c,0<c→c<a.length→(c-1)/2=i→0<i→pN (dv a ((i-1)/2)) (dv a c)
theorem QM.done(h:QM a i)(hs:∀c,0<c→c<a.length→(c-1)/2=i→pN (dv a i) (dv a c)):Hp a:=by
 intro j h0 hj;by_cases e:(j-1)/2=i
 ·rw[e];exact hs j h0 hj e
 ·exact h.1 j h0 hj e
theorem QM.step{k:Nat}(h:QM a i)(hk:k<a.length)(UN:k=2*i+1∨k=2*i+2)(P5:∀c,0<c→c<a.length→(c-1)/2=i→pN (dv a k) (dv a c))(hb:xO (dv a k) (dv a i)=true):QM (swp a i k) k:=by
 have hi:i<a.length:=by omega
 have hle:=rE hb;have hpk:(k-1)/2=i:=by omega
 refine⟨fun j j0 hj cq=>?_,fun c c0 hc L2 VN=>?_⟩
 ·rw[gi]at hj;rw[kh _ _ _ _ hi hk,kh _ _ _ _ hi hk,if_neg cq];by_cases e1:j=k
  ·subst e1;rw[hpk,if_pos rfl,if_pos rfl];exact hle
  ·rw[if_neg e1];by_cases e2:(j-1)/2=i
   ·rw[if_pos e2,if_neg (by omega)];exact P5 j j0 hj e2
   ·rw[if_neg e2];by_cases e3:j=i
    ·rw[if_pos e3];have:=h.2 k (by omega) hk hpk (by omega);rw[e3];exact this
    ·rw[if_neg e3];exact h.1 j j0 hj e2
 ·rw[gi]at hc;rw[kh _ _ _ _ hi hk,kh _ _ _ _ hi hk,hpk,if_neg (by omega),if_pos rfl,if_neg (by omega),if_neg (by omega)];have:=h.1 c c0 hc (by omega);rw[L2]at this;exact this
theorem QM.start(h:Hp a)(cq:0<a.length):QM ((swp a 0 (a.length-1)).take (a.length-1)) 0:=by
 have hl:((swp a 0 (a.length-1)).take (a.length-1)).length=a.length-1:=by simp
 have RW:∀j,0<j→j<a.length-1→dv ((swp a 0 (a.length-1)).take (a.length-1)) j=dv a j:=fun j j0 hj=>by
  have:dv ((swp a 0 (a.length-1)).take (a.length-1)) j=dv (swp a 0 (a.length-1)) j:=by simp[dv,List.getD,List.getElem?_take_of_lt hj]
  rw[this,kh _ _ _ _ (by omega) (by omega),if_neg (by omega),if_neg (by omega)]
 refine⟨fun j j0 hj cq=>?_,fun c _ _ _ h0=>by omega⟩;rw[hl]at hj;rw[RW j j0 hj,RW _ (by omega) (by omega)];exact h j j0 (by omega)
theorem JF(cq:0<a.length)(y:Nd):(y∈(swp a 0 (a.length-1)).take (a.length-1)→y∈a)∧(y∈a→y=dv a 0∨y∈(swp a 0 (a.length-1)).take (a.length-1)):=by
 refine⟨fun h=>(xP cq (by omega) y).1 (List.mem_of_mem_take h),fun h=>?_⟩;have h:=(xP (i:=0) (k:=a.length-1) cq (by omega) y).2 h;rw[v8]at h;obtain⟨j,hj,e⟩:=h;rw[gi]at hj;by_cases hl:j=a.length-1
 ·left;rw[kh _ _ _ _ cq (by omega),if_pos hl]at e;exact e.symm
 ·right;rw[List.mem_iff_getElem?];refine⟨j,?_⟩;rw[List.getElem?_take_of_lt (by omega),CU (by simpa using hj),e]
end Go.Ab.Nw
namespace Go.Ab.Nw
theorem Lb{S R A:Type}{body:S→(S→Option R)→Option R}(st:A→S)(I:A→Prop)(m:A→Nat)(fin:A→Option R→Prop)(h:∀a,I a→∀rec,(∃a',I a'∧m a'<m a∧body (st a) rec=rec (st a'))∨(∃r,fin a r∧body (st a) rec=r)):∀N a,I a→m a<N→∃a' r,I a'∧fin a' r∧cd body N (st a)=r:=by
 intro N;induction N with
 |zero=>intro a _ h;omega
 |succ N ih=>
  intro a hI hm;simp only[cd];rcases h a hI (cd body N)with⟨a',h1,h2,h3⟩|⟨r,h1,h2⟩
  ·obtain⟨a2,r,i1,i2,i3⟩:=ih a' h1 (by omega);exact⟨a2,r,i1,i2,by rw[h3];exact i3⟩
  ·exact⟨a,r,hI,h1,h2⟩
def up:Nat→List Nd→Nat→List Nd
 |0,a,_=>a
 |f+1,a,i=>if 0<i∧xO (dv a i) (dv a ((i-1)/2))=true then up f (swp a i ((i-1)/2)) ((i-1)/2)else a
def push(a:List Nd)(x:Nd):List Nd:=up (a.length+1) (a++[x]) a.length
def BF(a:List Nd)(i:Nat):Nat:=if 2*i+1+1<a.length∧xO (dv a (2*i+1+1)) (dv a (2*i+1))=true then 2*i+1+1 else 2*i+1
def down:Nat→List Nd→Nat→List Nd
 |0,a,_=>a
 |f+1,a,i=>if a.length≤2*i+1 then a else if xO (dv a (BF a i)) (dv a i)=true then down f (swp a i (BF a i)) (BF a i)else a
def Hu(a:List Nd):List Nd:=(swp a 0 (a.length-1)).take (a.length-1)
def rest(a:List Nd):List Nd:=down (a.length+1) (Hu a) 0
theorem R3:∀(f:Nat){a:List Nd}{i:Nat},i<f→i<a.length→QL a i→Hp (up f a i)∧(up f a i).length=a.length∧∀x,x∈up f a i↔x∈a
 |0,_,_,h,_,_=>by omega
 |f+1,a,i,hf,hi,h=>by
  unfold up;split
  ·rename_i hc;have hp:(i-1)/2<a.length:=by omega
   obtain⟨h1,h2,h3⟩:=R3 f (a:=swp a i ((i-1)/2)) (i:=(i-1)/2) (by omega) (by rw[gi];exact hp) (h.step hc.1 hi hc.2);exact⟨h1,by rw[h2,gi],fun x=>by rw[h3,xP hi hp]⟩
  ·rename_i hc;refine⟨h.done hi ?_,rfl,fun x=>Iff.rfl⟩;by_cases h0:i=0
   ·exact .inl h0
   ·right;cases hb:xO (dv a i) (dv a ((i-1)/2))with
    |false=>rfl
    |true=>exact absurd ⟨by omega,hb⟩ hc
variable{a:List Nd}
theorem QN(h:Hp a)(x:Nd):Hp (push a x)∧(push a x).length=a.length+1∧∀y,y∈push a x↔y∈a∨y=x:=by obtain⟨h1,h2,h3⟩:=R3 (a.length+1) (a:=a++[x]) (i:=a.length) (by omega) (by simp) (QL.start h x);exact⟨h1,by unfold push;rw[h2];simp,fun y=>by unfold push;rw[h3];simp⟩
theorem Og{i:Nat}(h:¬a.length≤2*i+1):BF a i<a.length∧(BF a i=2*i+1∨BF a i=2*i+2)∧∀c,0<c→c<a.length→(c-1)/2=i→pN (dv a (BF a i)) (dv a c):=by
 unfold BF;split
 ·rename_i hc;refine⟨by omega,.inr rfl,fun c c0 hl hp=>?_⟩;have:c=2*i+1∨c=2*i+1+1:=by omega
  rcases this with rfl|rfl
  ·exact rE hc.2
  ·exact v7 _
 ·rename_i hc;refine⟨by omega,.inl rfl,fun c c0 hl hp=>?_⟩;have:c=2*i+1∨c=2*i+1+1:=by omega
  rcases this with rfl|rfl
  ·exact v7 _
  ·unfold pN;cases hb:xO (dv a (2*i+1+1)) (dv a (2*i+1))with
   |false=>rfl
   |true=>exact absurd ⟨hl,hb⟩ hc
theorem JG:∀(f:Nat){a:List Nd}{i:Nat},a.length≤f+i→QM a i→Hp (down f a i)∧(down f a i).length=a.length∧∀x,x∈down f a i↔x∈a
 |0,a,i,hf,h=>⟨h.done fun c c0 hc hp=>by omega,rfl,fun x=>Iff.rfl⟩
 |f+1,a,i,hf,h=>by
  unfold down;split
  ·exact⟨h.done fun c c0 hc hp=>by omega,rfl,fun x=>Iff.rfl⟩
  ·rename_i hl;obtain⟨k1,k2,k3⟩:=Og hl;split
   ·rename_i hb;obtain⟨h1,h2,h3⟩:=JG f (a:=swp a i (BF a i)) (i:=BF a i) (by rw[gi];omega) (h.step k1 k2 k3 hb);exact⟨h1,by rw[h2,gi],fun x=>by rw[h3,xP (by omega) k1]⟩
   ·rename_i hb;refine⟨h.done fun c c0 hc hp=>pO ?_ (k3 c c0 hc hp),rfl,fun x=>Iff.rfl⟩;unfold pN;exact Bool.not_eq_true _▸hb
theorem CV(h:Hp a)(cq:0<a.length):Hp (rest a)∧(rest a).length=a.length-1∧(∀y∈rest a,y∈a)∧(∀y∈a,y=dv a 0∨y∈rest a)∧∀y∈a,(dv a 0).len≤y.len:=by
 have hl:(Hu a).length=a.length-1:=by simp[Hu]
 obtain⟨h1,h2,h3⟩:=JG (a.length+1) (a:=Hu a) (i:=0) (by rw[hl];omega) (QM.start h cq);refine⟨h1,by unfold rest;rw[h2,hl],fun y hy=>?_,fun y hy=>?_,fun y hy=>?_⟩
 ·exact(JF cq y).1 ((h3 y).1 hy)
 ·rcases(JF cq y).2 hy with h|h
  ·exact .inl h
  ·exact .inr ((h3 y).2 h)
 ·obtain⟨j,hj,rfl⟩:=v8.1 hy;exact Oe (h.min j hj)
structure Ed where
 f:Nat
 t:Nat
 c:Nat
 deriving DecidableEq,Inhabited
def ew(E:List Ed)(i j c:Nat):Prop:=(⟨i,j,c⟩:Ed)∈E
abbrev UX:=Option (Nat×Nat)
abbrev kP:=Nat→UX
def rF(o:kP)(v:Nat)(l:UX):kP:=fun u=>if u=v then l else o u
def qf(E:List Ed)(o:kP):Nat:=E.countP fun y=>(o y.f).isNone
def AF(n:Nat)(o:kP):Nat:=(List.range n).countP fun v=>(o v).isSome
def CW(E:List Ed)(s v L:Nat):Prop:=(v=s∧L=0)∨iH (ew E) s v L
structure DI(E:List Ed)(n s B:Nat)(o:kP)(pu:Nat)(H:List Nd):Prop where
 hp:Hp H
 node:∀x∈H,x.n<n
 real:∀x∈H,CW E s x.n x.len
 ju:∀v L e,v<n→o v=some (L,e)→CW E s v L∧∀L',CW E s v L'→L≤L'
 front:∀u L e v c,u<n→o u=some (L,e)→(⟨u,v,c⟩:Ed)∈E→o v=none→∃x∈H,x.n=v∧x.len≤L+c
 src:o s=none→∃x∈H,x.n=s∧x.len=0
 Oh:∀x∈H,x.len≤B*AF n o∧x.e≤AF n o
 TT:∀v L e,v<n→o v=some (L,e)→L≤B*n∧e≤n
 cnt:pu+qf E o≤1+E.length
 TU:H.length≤pu
theorem JH(n:Nat)(o:kP):AF n o≤n:=by unfold AF;have:=List.countP_le_length (p:=fun v=>(o v).isSome) (l:=List.range n);simpa using this
theorem xd{A:Type}[DecidableEq A]{p q:A→Bool}{v:A}:∀{l:List A},l.Nodup→v∈l→(∀u,u≠v→p u=q u)→p v=false→q v=true→l.countP q=l.countP p+1
 |a::l,hn,hv,V2,h0,h1=>by
  rw[List.nodup_cons]at hn;rw[List.countP_cons,List.countP_cons];by_cases e:a=v
  ·subst e;have:l.countP q=l.countP p:=by apply List.countP_congr;intro u hu;rw[V2 u fun e=>by subst e;exact hn.1 hu]
   rw[this,h0,h1];simp
  ·have FM:v∈l:=by rcases List.mem_cons.1 hv with h|h;exact absurd h.symm e;exact h
   rw[xd hn.2 FM V2 h0 h1,V2 a e];omega
variable{o:kP}
theorem Oi{n:Nat}{v:Nat}{l:Nat×Nat}(hv:v<n)(h:o v=none):AF n (rF o v (some l))=AF n o+1:=xd (p:=fun v=>(o v).isSome) (q:=fun u=>(rF o v (some l) u).isSome) (v:=v) List.nodup_range (List.mem_range.2 hv) (fun u hu=>by simp[rF,hu]) (by simp[h]) (by simp[rF])
theorem DI.least{E:List Ed}{n s B:Nat}{pu:Nat}{H:List Nd}(h:DI E n s B o pu H)(hE:∀y∈E,y.f<n∧y.t<n){v L:Nat}(hv:o v=none)(hw:CW E s v L):∃x∈H,x.len≤L:=by
 cases hs:o s with
 |none=>obtain⟨x,h1,_,h2⟩:=h.src hs;exact⟨x,h1,by omega⟩
 |some l=>
  obtain⟨Ls,es⟩:=l;rcases hw with⟨rfl,_⟩|hw
  ·rw[hs]at hv;cases hv
  have key:∀{v L:Nat},iH (ew E) s v L→o v=none→∃x∈H,x.len≤L:=by
   intro v L hw;induction hw with
   | @zN j c hc=>intro hv;have qA:s<n:=(hE _ hc).1;obtain⟨x,h1,_,h2⟩:=h.front s Ls es j c qA hs hc hv;have:=(h.ju s Ls es qA hs).2 0 (.inl ⟨rfl,rfl⟩);exact⟨x,h1,by omega⟩
   | @snoc m j A c hA hc ih=>
    intro hv;cases hm:o m with
    |none=>obtain⟨x,h1,h2⟩:=ih hm;exact⟨x,h1,by omega⟩
    |some l=>obtain⟨Lm,em⟩:=l;have qA:m<n:=(hE _ hc).1;obtain⟨x,h1,_,h2⟩:=h.front m Lm em j c qA hm hc hv;have:=(h.ju m Lm em qA hm).2 A (.inr hA);exact⟨x,h1,by omega⟩
  exact key hw hv
theorem DI.skip{E:List Ed}{n s B:Nat}{pu:Nat}{H:List Nd}(h:DI E n s B o pu H)(cq:0<H.length)(oT:(o (dv H 0).n).isSome=true):DI E n s B o pu (rest H):=by
 obtain⟨r1,r2,r3,r4,r5⟩:=CV h.hp cq;have other:∀x∈H,o x.n=none→x∈rest H:=fun x hx hn=>by
  rcases r4 x hx with e|e
  ·rw[e]at hn;rw[hn]at oT;cases oT
  ·exact e
 refine⟨r1,fun x hx=>h.node x (r3 x hx),fun x hx=>h.real x (r3 x hx),h.ju,fun u L e v c hu ho he hv=>?_,fun hs=>?_,fun x hx=>h.Oh x (r3 x hx),h.TT,h.cnt,by rw[r2];have:=h.TU;omega⟩
 ·obtain⟨x,x1,x2,x3⟩:=h.front u L e v c hu ho he hv;exact⟨x,other x x1 (by rw[x2];exact hv),x2,x3⟩
 ·obtain⟨x,x1,x2,x3⟩:=h.src hs;exact⟨x,other x x1 (by rw[x2];exact hs),x2,x3⟩
end Go.Ab.Nw
namespace Go.Ab.Nw
def kC(o:kP)(x:Nd):List Ed→Nat→List Nd→Nat×List Nd
 |[],pu,H=>(pu,H)
 |z::es,pu,H=>if(o z.t).isNone=true then kC o x es (pu+1) (push H ⟨z.t,x.len+z.c,x.e+1,pu⟩)else kC o x es pu H
theorem zO{o:kP}{x:Nd}:∀{es:List Ed}{pu:Nat}{H:List Nd},Hp H→∃k,k≤es.length∧(kC o x es pu H).1=pu+k∧(kC o x es pu H).2.length=H.length+k∧Hp (kC o x es pu H).2∧(∀y∈(kC o x es pu H).2,y∈H∨∃z∈es,o z.t=none∧y.n=z.t∧y.len=x.len+z.c∧y.e=x.e+1)∧(∀y∈H,y∈(kC o x es pu H).2)∧∀z∈es,o z.t=none→∃y∈(kC o x es pu H).2,y.n=z.t∧y.len=x.len+z.c
 |[],pu,H,h=>⟨0,Nat.le_refl _,rfl,rfl,h,fun y hy=>.inl hy,fun y hy=>hy,fun z hz=>by cases hz⟩
 |z::es,pu,H,h=>by
  unfold kC;split
  ·rename_i hz;have hz:o z.t=none:=by simpa using hz
   obtain⟨p1,p2,p3⟩:=QN h ⟨z.t,x.len+z.c,x.e+1,pu⟩;obtain⟨k,k1,k2,k3,k4,k5,k6,k7⟩:=zO (o:=o) (x:=x) (es:=es) (pu:=pu+1) p1;refine⟨k+1,by simp;omega,by rw[k2];omega,by rw[k3,p2];omega,k4,fun y hy=>?_,fun y hy=>k6 y ((p3 y).2 (.inl hy)),fun z' My hn=>?_⟩
   ·rcases k5 y hy with h1|⟨z',h1,h2⟩
    ·rcases(p3 y).1 h1 with h1|rfl
     ·exact .inl h1
     ·exact .inr ⟨z,by simp,hz,rfl,rfl,rfl⟩
    ·exact .inr ⟨z',by simp[h1],h2⟩
   ·rcases List.mem_cons.1 My with rfl|My
    ·exact⟨_,k6 _ ((p3 _).2 (.inr rfl)),rfl,rfl⟩
    ·exact k7 z' My hn
  ·rename_i hz;obtain⟨k,k1,k2,k3,k4,k5,k6,k7⟩:=zO (o:=o) (x:=x) (es:=es) (pu:=pu) h;refine⟨k,by simp;omega,k2,k3,k4,fun y hy=>?_,k6,fun z' My hn=>?_⟩
   ·rcases k5 y hy with h1|⟨z',h1,h2⟩
    ·exact .inl h1
    ·exact .inr ⟨z',by simp[h1],h2⟩
   ·rcases List.mem_cons.1 My with rfl|My
    ·rw[hn]at hz;exact absurd rfl hz
    ·exact k7 z' My hn
theorem Oj(E:List Ed)(o:kP)(v:Nat)(l:Nat×Nat)(h:o v=none):qf E o=qf E (rF o v (some l))+(E.filter fun y=>y.f==v).length:=by
 unfold qf;induction E with
 |nil=>rfl
 |cons y E ih=>
  rw[List.countP_cons,List.countP_cons,List.filter_cons,ih];by_cases e:y.f=v
  ·subst e;simp[rF,h];omega
  ·simp[rF,e];omega
variable{E:List Ed}
theorem DI.settle{n s B:Nat}{o:kP}{pu:Nat}{H:List Nd}(h:DI E n s B o pu H)(hE:∀y∈E,y.f<n∧y.t<n∧y.c≤B)(cq:0<H.length)(vB:o (dv H 0).n=none):DI E n s B (rF o (dv H 0).n (some ((dv H 0).len,(dv H 0).e))) (kC (rF o (dv H 0).n (some ((dv H 0).len,(dv H 0).e))) (dv H 0) (E.filter fun y=>y.f==(dv H 0).n) pu (rest H)).1 (kC (rF o (dv H 0).n (some ((dv H 0).len,(dv H 0).e))) (dv H 0) (E.filter fun y=>y.f==(dv H 0).n) pu (rest H)).2∧(kC (rF o (dv H 0).n (some ((dv H 0).len,(dv H 0).e))) (dv H 0) (E.filter fun y=>y.f==(dv H 0).n) pu (rest H)).2.length+qf E (rF o (dv H 0).n (some ((dv H 0).len,(dv H 0).e)))<H.length+qf E o:=by
 obtain⟨r1,r2,r3,r4,r5⟩:=CV h.hp cq;obtain⟨x,hx⟩:∃x,x=dv H 0:=⟨_,rfl⟩;rw[←hx]at vB r4 r5⊢;have WR:x∈H:=v8.2 ⟨0,cq,hx.symm⟩;have hxn:=h.node x WR;obtain⟨o1,UM⟩:∃o1,o1=rF o x.n (some (x.len,x.e)):=⟨_,rfl⟩;rw[←UM];have oo:∀v,o1 v=if v=x.n then some (x.len,x.e)else o v:=fun v=>by rw[UM];rfl
 have on:∀v,o1 v=none→v≠x.n∧o v=none:=fun v hv=>by
  rw[oo]at hv;split at hv
  ·cases hv
  ·exact⟨‹_›,hv⟩
 obtain⟨k,k1,k2,k3,k4,k5,k6,k7⟩:=zO (o:=o1) (x:=x) (es:=E.filter fun y=>y.f==x.n) (pu:=pu) r1;have hs:AF n o1=AF n o+1:=by rw[UM];exact Oi hxn vB
 have KO:qf E o=qf E o1+(E.filter fun y=>y.f==x.n).length:=by rw[UM];exact Oj E o x.n _ vB
 have mem:∀z,z∈(E.filter fun y=>y.f==x.n)↔z∈E∧z.f=x.n:=fun z=>by simp[List.mem_filter]
 have go:∀z,z∈E→z.f=x.n→iH (ew E) s z.t (x.len+z.c):=fun z hz hf=>by
  have he:ew E x.n z.t z.c:=by
   unfold ew;have:(⟨x.n,z.t,z.c⟩:Ed)=z:=by rw[←hf]
   rw[this];exact hz
  rcases h.real x WR with⟨e1,e2⟩|hw
  ·rw[e2,Nat.zero_add];rw[e1]at he;exact .zN he
  ·exact .snoc hw he
 have other:∀y∈H,y.n≠x.n→y∈(kC o1 x (E.filter fun y=>y.f==x.n) pu (rest H)).2:=fun y hy hn=>by
  rcases r4 y hy with e|e
  ·exact absurd (by rw[e]) hn
  ·exact k6 y e
 refine⟨⟨k4,fun y hy=>?_,fun y hy=>?_,fun v L e hv ho=>?_,fun u L e v c hu ho he hv=>?_,fun V5=>?_,fun y hy=>?_,fun v L e hv ho=>?_,?_,?_⟩,?_⟩
 ·rcases k5 y hy with h1|⟨z,z1,z2,z3,_⟩
  ·exact h.node y (r3 y h1)
  ·rw[z3];exact(hE z ((mem z).1 z1).1).2.1
 ·rcases k5 y hy with h1|⟨z,z1,z2,z3,z4,_⟩
  ·exact h.real y (r3 y h1)
  ·rw[z3,z4];exact .inr (go z ((mem z).1 z1).1 ((mem z).1 z1).2)
 ·rw[oo]at ho;split at ho
  ·rename_i e';simp only[Option.some.injEq,Prod.mk.injEq]at ho;obtain⟨rfl,rfl⟩:=ho;subst e';refine⟨h.real x WR,fun L' hL=>?_⟩;obtain⟨y,y1,y2⟩:=h.least (fun y hy=>⟨(hE y hy).1,(hE y hy).2.1⟩) vB hL;exact Nat.le_trans (r5 y y1) y2
  ·exact h.ju v L e hv ho
 ·obtain⟨v1,v2⟩:=on v hv;rw[oo]at ho;split at ho
  ·rename_i e';simp only[Option.some.injEq,Prod.mk.injEq]at ho;obtain⟨rfl,rfl⟩:=ho;obtain⟨y,y1,y2,y3⟩:=k7 ⟨u,v,c⟩ ((mem _).2 ⟨he,e'⟩) hv;exact⟨y,y1,y2,by rw[y3];exact Nat.le_refl _⟩
  ·obtain⟨y,y1,y2,y3⟩:=h.front u L e v c hu ho he v2;exact⟨y,other y y1 (by rw[y2];exact v1),y2,y3⟩
 ·obtain⟨v1,v2⟩:=on s V5;obtain⟨y,y1,y2,y3⟩:=h.src v2;exact⟨y,other y y1 (by rw[y2];exact v1),y2,y3⟩
 ·rw[hs,Nat.mul_succ];rcases k5 y hy with h1|⟨z,z1,z2,z3,z4,z5⟩
  ·have:=h.Oh y (r3 y h1);omega
  ·have:=h.Oh x WR;have:=(hE z ((mem z).1 z1).1).2.2;omega
 ·rw[oo]at ho;split at ho
  ·simp only[Option.some.injEq,Prod.mk.injEq]at ho;obtain⟨rfl,rfl⟩:=ho;have h1:=h.Oh x WR;have h2:=JH n o;have h3:B*AF n o≤B*n:=Nat.mul_le_mul_left _ h2;omega
  ·exact h.TT v L e hv ho
 ·have:=h.cnt;omega
 ·have:=h.TU;omega
 ·rw[k3,r2];omega
theorem DI.start{n s B:Nat}(hs:s<n):DI E n s B (fun _=>none) 1 [⟨s,0,0,0⟩]:=by
 refine⟨fun j j0 hj=>by simp at hj;omega,fun x hx=>?_,fun x hx=>?_,fun v L e _ h=>(by cases h),fun u L e v c _ h=>(by cases h),fun _=>⟨⟨s,0,0,0⟩,by simp,rfl,rfl⟩,fun x hx=>?_,fun v L e _ h=>(by cases h),?_,by simp⟩
 ·simp at hx;subst hx;exact hs
 ·simp at hx;subst hx;exact .inl ⟨rfl,rfl⟩
 ·simp at hx;subst hx;simp
 ·have:qf E (fun _=>none)=E.length:=by simp[qf]
  omega
theorem DI.done{n s B:Nat}{o:kP}{pu:Nat}(h:DI E n s B o pu [])(hE:∀y∈E,y.f<n∧y.t<n∧y.c≤B){v:Nat}(hv:v<n):match o v with
 |some (L,_)=>L≤B*n∧CW E s v L∧∀L',CW E s v L'→L≤L'
 |none=>∀L',¬CW E s v L':=by
 cases ho:o v with
 |some l=>obtain⟨L,e⟩:=l;exact⟨(h.TT v L e hv ho).1,h.ju v L e hv ho⟩
 |none=>
  intro L' hL
  obtain⟨x,hx,_⟩:=h.least (fun y hy=>⟨(hE y hy).1,(hE y hy).2.1⟩) ho hL
  cases hx
end Go.Ab.Nw
namespace Go.Ab.Nw
set_option maxRecDepth 100000
set_option linter.unusedVariables false
set_option linter.unusedSimpArgs false
def Nd.pv(x:Nd):PV:=.agg [.int .i64 x.n,.int .i64 x.len,.int .i64 x.e,.int .i64 x.num]
abbrev ky(a:List Nd):List PV:=a.map Nd.pv
theorem nd0(x:Nd):cell x.pv 0=.int .i64 x.n:=rfl
theorem nd1(x:Nd):cell x.pv 1=.int .i64 x.len:=rfl
theorem nd2(x:Nd):cell x.pv 2=.int .i64 x.e:=rfl
theorem nd3(x:Nd):cell x.pv 3=.int .i64 x.num:=rfl
theorem ndE(x:Nd):PV.agg [cell x.pv 0,cell x.pv 1,cell x.pv 2,cell x.pv 3]=x.pv:=rfl
theorem ep{a:List Nd}{i:Nat}(h:i<a.length):(ky a)[i]?=some (dv a i).pv:=by rw[List.getElem?_map,CU h];rfl
theorem WS(a b c:PV):cell (.agg [a,b,c]) 0=a:=rfl
theorem TV(a b c:PV):cell (.agg [a,b,c]) 1=b:=rfl
theorem WT(a b c:PV):cell (.agg [a,b,c]) 2=c:=rfl
theorem ag3(a b c:PV):asAgg 3 (.agg [a,b,c])=some ():=rfl
theorem QO(a b:Nd):dS [.agg [cell a.pv 0,cell a.pv 1,cell a.pv 2],.agg [cell b.pv 0,cell b.pv 1,cell b.pv 2]]=some (.bool (decide (a.len<b.len∨(a.len=b.len∧a.e<b.e)))):=by
 simp only[dS,oz,ag3,WS,TV,WT,nd0,nd1,nd2,if_true,U,asInt];by_cases h1:a.len<b.len
 ·simp[h1]
 ·by_cases h2:a.len=b.len
  ·simp[h2]
  ·have:((a.len:Int)==(b.len:Int))=false:=by rw[beq_eq_false_iff_ne];omega
   simp[h1,h2,this]
theorem pb(a:List Nd)(pu:Nat)(i k:Nat)(hi:i<a.length)(hk:k<a.length):au [.rp [.fn 87 [],.rs 4 (ky a),.int .i64 pu],.int .i64 i,.int .i64 k]=some (.bool (xO (dv a i) (dv a k))):=by
 have e0:ae 4 (PV.rs 4 (ky a))=some (ky a):=by simp[ae]
 simp only[au,dV,TV,WT,e0,U,asInt,if_true,aV,ep hi,ep hk,QO,asBool,nd3];generalize dv a i=x;generalize dv a k=y;unfold xO;by_cases h1:x.len<y.len∨(x.len=y.len∧x.e<y.e)
 ·have:(x.len<y.len∨(x.len=y.len∧(x.e<y.e∨(x.e=y.e∧x.num<y.num)))):=by omega
  simp[h1,this]
 ·by_cases h2:y.len<x.len∨(y.len=x.len∧y.e<x.e)
  ·have:¬(x.len<y.len∨(x.len=y.len∧(x.e<y.e∨(x.e=y.e∧x.num<y.num)))):=by omega
   simp[h1,h2,this]
  ·have:(x.len<y.len∨(x.len=y.len∧(x.e<y.e∨(x.e=y.e∧x.num<y.num))))↔x.num<y.num:=by omega
   simp[h1,h2,this]
theorem half(i:Nat)(h:0<i)(hi:i<4611686018427387904):IntKind.i64.wrap ((IntKind.i64.wrap ((i:Int)-1)).tdiv 2)=(((i-1)/2:Nat):Int):=by
 have e1:IntKind.i64.wrap ((i:Int)-1)=((i-1:Nat):Int):=by rw[ic (by omega) (by omega)];omega
 have e2:((i-1:Nat):Int).tdiv 2=(((i-1)/2:Nat):Int):=rfl;rw[e1,e2,ic (by omega) (by omega)]
theorem ED{i:Nat}{es:List PV}(h:i<es.length):ag (i:Int) es.length:=⟨by omega,by omega⟩
theorem CX(a:List Nd)(i k:Nat):((ky a).set i (dv a k).pv).set k (dv a i).pv=ky (swp a i k):=by simp[swp,List.map_set]
theorem JI(xe:UY→Option PV)(t1:PV)(es:List PV)(ln ix:Int)(pu:Nat)(out:List PV)(x0 x1 x2:PV):∀(f N:Nat)(a:List Nd)(i:Nat),i<f→f≤N→i<a.length→a.length<4611686018427387904→cd (jw xe) N ((i:Int),t1,es,ln,ix,(pu:Int),out,x0,x1,x2,ky a,())=xe (t1,es,ln,IntKind.i64.wrap (ix+1),out,(pu:Int),x0,x1,x2,ky (up f a i),())
 |0,_,_,_,h,_,_,_=>by omega
 |f+1,0,_,_,_,h,_,_=>by omega
 |f+1,N+1,a,i,hf,hN,hi,ha=>by
  simp only[cd];unfold jw up;by_cases h0:0<i
  ·have hp:(i-1)/2<a.length:=by omega
   have hg:decide ((i:Int)>0)=true:=by simp;omega
   simp only[hg,cond_true,half i h0 (by omega),pb a pu i ((i-1)/2) hi hp,U,asBool];by_cases hb:xO (dv a i) (dv a ((i-1)/2))=true
   ·have ZZ:i<(ky a).length:=by simpa using hi
    have hl2:(i-1)/2<(ky a).length:=by simpa using hp
    have hl3:(i-1)/2<((ky a).set i (dv a ((i-1)/2)).pv).length:=by simpa using hp
    have BG:((ky a).set i (dv a ((i-1)/2)).pv)[(i-1)/2]?=some (dv a ((i-1)/2)).pv:=by rw[List.getElem?_set];rw[if_neg (by omega),ep hp]
    simp only[hb,if_true,if_pos (ED ZZ),if_pos (ED hl2),if_pos (ED hl3),Int.toNat_natCast,ep hi,ep hp,U,ndE,BG,CX,h0,and_self];exact JI xe t1 es ln ix pu out x0 x1 x2 f N (swp a i ((i-1)/2)) ((i-1)/2) (by omega) (by omega) (by rw[gi];exact hp) (by rw[gi];exact ha)
   ·simp only[hb,Bool.false_eq_true,if_false,and_false]
  ·have hg:decide ((i:Int)>0)=false:=by simp;omega
   simp only[hg,cond_false,U,Bool.false_eq_true,if_false,h0,false_and]
end Go.Ab.Nw
namespace Go.Ab.Nw
set_option maxRecDepth 100000
set_option linter.unusedVariables false
set_option linter.unusedSimpArgs false
def nL(v:Nat):UX→PV
 |none=>.agg [.int .i64 v,.int .i64 (-1),.int .i64 (-1)]
 |some (L,e)=>.agg [.int .i64 v,.int .i64 (L:Int),.int .i64 (e:Int)]
def dC(n:Nat)(o:kP):List PV:=(List.range n).map fun v=>nL v (o v)
def Ed.pv(y:Ed):PV:=.agg [.int .i64 y.f,.int .i64 y.t,.int .i64 y.c]
theorem mf(n:Nat)(o:kP):(dC n o).length=n:=by simp[dC]
theorem mh{n v:Nat}(o:kP)(h:v<n):(dC n o)[v]?=some (nL v (o v)):=by simp[dC,h]
theorem Lc{n v:Nat}(o:kP)(l:Nat×Nat)(h:v<n):(dC n o).set v (nL v (some l))=dC n (rF o v (some l)):=by
 apply List.ext_getElem?;intro i;rw[List.getElem?_set];by_cases e:v=i
 ·subst e;rw[if_pos rfl,if_pos (by rw[mf];exact h),mh _ h];simp[rF]
 ·rw[if_neg e];by_cases hi:i<n
  ·rw[mh _ hi,mh _ hi];simp[rF,Ne.symm e]
  ·rw[List.getElem?_eq_none (by rw[mf];omega),List.getElem?_eq_none (by rw[mf];omega)]
theorem WU(v:Nat)(l:UX):∃z:Int,asInt .i64 (cell (nL v l) 2)=some z∧(decide (z<0)=l.isNone)∧decide (z≥0)=l.isSome:=by
 cases l with
 |none=>exact⟨-1,rfl,rfl,rfl⟩
 |some p=>obtain⟨L,e⟩:=p;exact⟨e,rfl,by simp,by simp⟩
theorem ed1(y:Ed):cell y.pv 1=.int .i64 y.t:=rfl
theorem ed2(y:Ed):cell y.pv 2=.int .i64 y.c:=rfl
theorem EE(n:Int):asInt .i64 (.int .i64 n)=some n:=by simp[asInt]
theorem BH(cP:PV×List PV×Int×List PV×Unit→Option PV)(t1:PV)(n:Nat)(o:kP)(x:Nd)(es:List Ed)(ht:∀z∈es,z.t<n)(hn:n<4294967296)(hx:x.len<4611686018427387904)(hxe:x.e<4611686018427387904)(hc:∀z∈es,z.c<4611686018427387904)(Aq:es.length<4611686018427387904):∀(m N k pu:Nat)(H:List Nd),m+k=es.length→m<N→pu+m<4294967296→H.length+m<4294967296→cd (cH dM cP) N (t1,es.map Ed.pv,((es.length:Nat):Int),(k:Int),dC n o,(pu:Int),.int .i64 x.n,.int .i64 x.len,.int .i64 x.e,ky H,())=cP (t1,dC n o,((kC o x (es.drop k) pu H).1:Int),ky (kC o x (es.drop k) pu H).2,())
 |_,0,_,_,_,_,h,_,_=>by omega
 |0,N+1,k,pu,H,hk,hN,hpu,hH=>by
  simp only[cd];unfold cH;dsimp only;have hg:decide ((k:Int)<((es.length:Nat):Int))=false:=by simp;omega
  rw[hg,List.drop_eq_nil_of_le (by omega)];rfl
 |m+1,N+1,k,pu,H,hk,hN,hpu,hH=>by
  have ih:=BH cP t1 n o x es ht hn hx hxe hc Aq m N (k+1);simp only[cd];generalize cd (cH dM cP) N=rec at ih⊢;unfold cH;dsimp only;have jI:k<es.length:=by omega
  have hg:decide ((k:Int)<((es.length:Nat):Int))=true:=by simp;omega
  obtain⟨z,hz⟩:∃z,es[k]?=some z:=⟨_,List.getElem?_eq_getElem jI⟩;have hzm:z∈es:=List.mem_of_getElem? hz;have hzt:=ht z hzm;have Cq:(es.map Ed.pv)[k]?=some z.pv:=by rw[List.getElem?_map,hz];rfl
  have WV:es.drop k=z::es.drop (k+1):=by rw[List.drop_eq_getElem_cons jI];have:=List.getElem?_eq_getElem jI;rw[hz]at this;rw[Option.some.inj this]
  obtain⟨w,w1,w2,w3⟩:=WU z.t (o z.t);have qA:ag (z.t:Int) (dC n o).length:=ED (by rw[mf];exact hzt);rw[WV,kC];simp only[hg,if_true,aV,Cq,U,ed1,ed2,EE,if_pos qA,Int.toNat_natCast,mh o hzt,w1,w2];by_cases vB:(o z.t).isNone=true
  ·have e1:IntKind.i64.wrap ((x.len:Int)+(z.c:Int))=((x.len+z.c:Nat):Int):=by have:=hc z hzm;rw[ic (by omega) (by omega)];omega
   have e2:ky H++[PV.agg [.int .i64 z.t,.int .i64 ((x.len+z.c:Nat):Int),.int .i64 ((x.e+1:Nat):Int),.int .i64 pu]]=ky (H++[⟨z.t,x.len+z.c,x.e+1,pu⟩]):=by simp[ky,Nd.pv]
   have e3:(ky (H++[⟨z.t,x.len+z.c,x.e+1,pu⟩])).length=H.length+1:=by simp
   have e4:IntKind.i64.wrap (((H.length+1:Nat):Int)-1)=(H.length:Int):=by rw[ic (by omega) (by omega)];omega
   have dc:(H.length+1)*32≤aa∧0<32:=by unfold aa;omega
   simp only[vB,if_true,e1,aI (show x.e<9223372036854775807 by omega),e2,e3,e4,if_pos dc,aI (show pu<9223372036854775807 by omega),jN];refine(JI rec t1 (es.map Ed.pv) ((es.length:Nat):Int) (k:Int) (pu+1) (dC n o) _ _ _ (H.length+1) rounds (H++[⟨z.t,x.len+z.c,x.e+1,pu⟩]) H.length (by omega) (by unfold rounds;omega) (by simp) (by simp;omega)).trans ?_;rw[aI (by omega)];rw[show up (H.length+1) (H++[⟨z.t,x.len+z.c,x.e+1,pu⟩]) H.length=push H ⟨z.t,x.len+z.c,x.e+1,pu⟩from rfl];refine ih (pu+1) _ (by omega) (by omega) (by omega) ?_;have:(push H ⟨z.t,x.len+z.c,x.e+1,pu⟩).length=H.length+1:=by
    unfold push;have key:∀(f:Nat)(a:List Nd)(i:Nat),(up f a i).length=a.length:=by
     intro f;induction f with
     |zero=>intro a i;rfl
     |succ f ih=>
      intro a i;unfold up;split
      ·rw[ih,gi]
      ·rfl
    rw[key];simp
   omega
  ·simp only[vB,Bool.false_eq_true,if_false,aI (show k<9223372036854775807 by omega)];exact ih pu H (by omega) (by omega) (by omega) (by omega)
end Go.Ab.Nw
namespace Go.Ab.Nw
set_option maxRecDepth 100000
set_option linter.unusedVariables false
set_option linter.unusedSimpArgs false
structure Gr(E:List Ed)(n:Nat)(ks vs:List PV):Prop where
 small:n<4294967296
 len:E.length<1073741824
 node:∀y∈E,y.f<n∧y.t<n∧y.c≤1073741824
 look:∀v:Nat,v<n→ae 3 (dB (.int .i64 v) (.rs 0 []) (ks.zip vs))=some ((E.filter fun y=>y.f==v).map Ed.pv)
section
variable {E:List Ed} {n:Nat} {ks vs:List PV}
def labelled(o:kP)(x:Nd):kP:=rF o x.n (some (x.len,x.e))
def KR(cP:PV×List PV×Int×List PV×Unit→Option PV)(E:List Ed)(n:Nat)(ks vs:List PV)(o:kP)(x:Nd)(pu:Nat)(H:List Nd):Option PV:=
 if(o x.n).isSome=true then cP (.rm 3 ks vs,dC n o,(pu:Int),ky H,())
 else cP (.rm 3 ks vs,dC n (labelled o x),((kC (labelled o x) x (E.filter fun y=>y.f==x.n) pu H).1:Int),ky (kC (labelled o x) x (E.filter fun y=>y.f==x.n) pu H).2,())
structure Sm(n:Nat)(E:List Ed)(x:Nd)(pu:Nat)(H:List Nd):Prop where
 node:x.n<n
 len:x.len<4611686018427387904
 e:x.e<4611686018427387904
 pu:pu≤1073741824
 H:H.length≤1073741824
theorem sm(hG:Gr E n ks vs)(cP:PV×List PV×Int×List PV×Unit→Option PV)(o:kP)(x:Nd)(pu:Nat)(H:List Nd)(hS:Sm n E x pu H)(A:Int→PV→Int→Option PV):((asInt .i64 (.int .i64 x.n)).bind fun n23=>if ag n23 (dC n o).length then(dC n o)[n23.toNat]?.bind fun e24=>(asInt .i64 (cell e24 2)).bind fun n25=>if decide (n25≥0)=true then cP (.rm 3 ks vs,dC n o,(pu:Int),ky H,())else(asInt .i64 (.int .i64 x.n)).bind fun n26=>if ag n26 (dC n o).length then(dC n o)[n26.toNat]?.bind fun PC=>(asInt .i64 (.int .i64 x.n)).bind fun n28=>dF 3 (.rm 3 ks vs) (A n26 PC n28) fun TW CY=>(ae 3 (dB (.int .i64 n28) (.rs 0 []) (TW.zip CY))).bind fun Ol=>dM.run (cH dM cP) (.rm 3 ks vs,Ol,(Ol.length:Int),0,(dC n o).set n26.toNat (.agg [.int .i64 x.n,.int .i64 x.len,.int .i64 x.e]),(pu:Int),.int .i64 x.n,.int .i64 x.len,.int .i64 x.e,ky H,())else none else none)=KR cP E n ks vs o x pu H:=by
 have qA:ag (x.n:Int) (dC n o).length:=ED (by rw[mf];exact hS.node)
 obtain⟨w,w1,w2,w3⟩:=WU x.n (o x.n)
 simp only[EE,U,if_pos qA,Int.toNat_natCast,mh o hS.node,w1,w3,dF,if_true,hG.look x.n hS.node,jN]
 unfold KR
 by_cases hs:(o x.n).isSome=true
 ·simp only[hs,if_true]
 ·simp only[hs,Bool.false_eq_true,if_false];have e1:(dC n o).set x.n (.agg [.int .i64 x.n,.int .i64 x.len,.int .i64 x.e])=dC n (labelled o x):=Lc o (x.len,x.e) hS.node;rw[e1];have hl:(E.filter fun y=>y.f==x.n).length≤E.length:=List.length_filter_le ..;have cQ:∀z∈E.filter (fun y=>y.f==x.n),z∈E:=fun z hz=>(List.mem_filter.1 hz).1;have h1:=hG.len;have h2:=hS.pu;have h3:=hS.H;have:=BH cP (.rm 3 ks vs) n (labelled o x) x (E.filter fun y=>y.f==x.n) (fun z hz=>(hG.node z (cQ z hz)).2.1) hG.small hS.len hS.e (fun z hz=>by have:=(hG.node z (cQ z hz)).2.2;omega) (by omega) (E.filter fun y=>y.f==x.n).length rounds 0 pu H (by omega) (by unfold rounds;omega) (by omega) (by omega);rw[List.drop_zero]at this;simpa using this
theorem Om{a:List Nd}{i:Nat}(h:2*i+1+1<a.length∧xO (dv a (2*i+1+1)) (dv a (2*i+1))=true):BF a i=2*i+1+1:=if_pos h
theorem Ld{a:List Nd}{i:Nat}(h:¬(2*i+1+1<a.length∧xO (dv a (2*i+1+1)) (dv a (2*i+1))=true)):BF a i=2*i+1:=if_neg h
theorem BI(hG:Gr E n ks vs)(cP:PV×List PV×Int×List PV×Unit→Option PV)(o:kP)(x:Nd)(pu:Nat)(z1 z2 z3:Int):∀(f N:Nat)(a:List Nd)(i:Nat),a.length≤f+i→f<N→i<4294967296→Sm n E x pu a→cd (dO dM cP) N ((i:Int),.rm 3 ks vs,(pu:Int),z1,z2,z3,.int .i64 x.n,.int .i64 x.len,.int .i64 x.e,dC n o,ky a,())=KR cP E n ks vs o x pu (down f a i)
 |_,0,_,_,_,h,_,_=>by omega
 |0,N+1,a,i,hf,hN,hi,hS=>by
  simp only[cd];generalize cd (dO dM cP) N=rec;unfold dO down;dsimp only;have e1:IntKind.i64.wrap (IntKind.i64.wrap (2*(i:Int))+1)=((2*i+1:Nat):Int):=by rw[ic (x:=2*(i:Int)) (by omega) (by omega),ic (by omega) (by omega)];omega
  have hg:decide (((2*i+1:Nat):Int)≥((ky a).length:Int))=true:=by simp;omega
  rw[e1,if_pos hg];exact sm hG cP o x pu a hS _
 |f+1,N+1,a,i,hf,hN,hi,hS=>by
  have ih:=BI hG cP o x pu z1 z2 z3 f N;simp only[cd];generalize cd (dO dM cP) N=rec at ih⊢;have e1:IntKind.i64.wrap (IntKind.i64.wrap (2*(i:Int))+1)=((2*i+1:Nat):Int):=by rw[ic (x:=2*(i:Int)) (by omega) (by omega),ic (by omega) (by omega)];omega
  have e2:IntKind.i64.wrap (((2*i+1:Nat):Int)+1)=((2*i+1+1:Nat):Int):=aI (by omega);unfold dO down;dsimp only;rw[e1,e2];by_cases hl:a.length≤2*i+1
  ·have hg:decide (((2*i+1:Nat):Int)≥((ky a).length:Int))=true:=by simp;omega
   rw[if_pos hg,if_pos hl];exact sm hG cP o x pu a hS _
  ·have hg:¬decide (((2*i+1:Nat):Int)≥((ky a).length:Int))=true:=by simp;omega
   rw[if_neg hg,if_neg hl];have hlen:=hS.H;have lD:i<a.length:=by omega
   have TD:i<(ky a).length:=by simpa using lD
   obtain⟨k1,k2,_⟩:=Og hl;have KC:BF a i<(ky a).length:=by simpa using k1
   have UR:BF a i<((ky a).set i (dv a (BF a i)).pv).length:=by simpa using k1
   have BG:((ky a).set i (dv a (BF a i)).pv)[BF a i]?=some (dv a (BF a i)).pv:=by rw[List.getElem?_set,if_neg (by omega),ep k1]
   have fin:=ih (swp a i (BF a i)) (BF a i) (by rw[gi];omega) (by omega) (by omega) ⟨hS.node,hS.len,hS.e,hS.pu,by rw[gi];exact hS.H⟩;by_cases hc:2*i+1+1<a.length∧xO (dv a (2*i+1+1)) (dv a (2*i+1))=true
   ·have hk:=Om hc;have hd:decide (((2*i+1+1:Nat):Int)<((ky a).length:Int))=true:=by simp;omega
    rw[hd];rw[hk]at KC UR BG fin k1⊢;simp only[cond_true,pb a pu (2*i+1+1) (2*i+1) (by omega) (by omega),hc.2,U,asBool,if_true,pb a pu (2*i+1+1) i k1 lD];by_cases hb:xO (dv a (2*i+1+1)) (dv a i)=true
    ·rw[if_pos hb]at*;simp only[hb,Bool.not_true,Bool.false_eq_true,if_false,if_pos (ED TD),if_pos (ED KC),if_pos (ED UR),Int.toNat_natCast,ep lD,ep k1,U,ndE,BG,CX];exact fin
    ·rw[if_neg hb];have fl:(!xO (dv a (2*i+1+1)) (dv a i))=true:=by simpa using hb
     rw[if_pos fl];exact sm hG cP o x pu a hS _
   ·have hk:=Ld hc;have hd:(bif decide (((2*i+1+1:Nat):Int)<((ky a).length:Int))then(au [.rp [.fn 87 [],.rs 4 (ky a),.int .i64 (pu:Int)],.int .i64 ((2*i+1+1:Nat):Int),.int .i64 ((2*i+1:Nat):Int)]).bind fun r53=>(asBool r53).bind fun b54=>some b54 else some false)=some false:=by
     by_cases h2:2*i+1+1<a.length
     ·have hd:decide (((2*i+1+1:Nat):Int)<((ky a).length:Int))=true:=by simp;omega
      have hb:xO (dv a (2*i+1+1)) (dv a (2*i+1))=false:=by
       cases hb:xO (dv a (2*i+1+1)) (dv a (2*i+1))with
       |false=>rfl
       |true=>exact absurd ⟨h2,hb⟩ hc
      rw[hd,cond_true,pb a pu (2*i+1+1) (2*i+1) h2 (by omega),U,hb];rfl
     ·have hd:decide (((2*i+1+1:Nat):Int)<((ky a).length:Int))=false:=by simp;omega
      rw[hd];rfl
    rw[hd];rw[hk]at KC UR BG fin k1⊢;simp only[U,asBool,Bool.false_eq_true,if_false,pb a pu (2*i+1) i k1 lD];by_cases hb:xO (dv a (2*i+1)) (dv a i)=true
    ·rw[if_pos hb]at*;simp only[hb,Bool.not_true,Bool.false_eq_true,if_false,if_pos (ED TD),if_pos (ED KC),if_pos (ED UR),Int.toNat_natCast,ep lD,ep k1,U,ndE,BG,CX];exact fin
    ·rw[if_neg hb];have fl:(!xO (dv a (2*i+1)) (dv a i))=true:=by simpa using hb
     rw[if_pos fl];exact sm hG cP o x pu a hS _
end
end Go.Ab.Nw
namespace Go.Ab.Nw
set_option maxRecDepth 100000
set_option linter.unusedVariables false
set_option linter.unusedSimpArgs false
section
variable {E:List Ed} {n:Nat} {ks vs:List PV}
theorem Le(hG:Gr E n ks vs)(cP:PV×List PV×Int×List PV×Unit→Option PV)(o:kP)(pu:Nat)(H:List Nd)(hS:∀x∈H,Sm n E x pu H):dP dM (.rm 3 ks vs,dC n o,(pu:Int),ky H,()) cP=if H.length=0 then some (.rs 3 (dC n o))else KR cP E n ks vs o (dv H 0) pu (rest H):=by
 unfold dP;dsimp only;by_cases h0:H.length=0
 ·have hg:(((ky H).length:Int)==0)=true:=by rw[List.length_map,h0];rfl
  rw[if_pos hg,if_pos h0]
 ·have hg:¬(((ky H).length:Int)==0)=true:=by simp;intro h;exact h0 (by rw[h];rfl)
  rw[if_neg hg,if_neg h0];have hx:dv H 0∈H:=v8.2 ⟨0,by omega,rfl⟩;have Tm:=hS _ hx;have hH:=Tm.H;have hl:((ky H).length:Int)=(H.length:Int):=by simp
  have e1:IntKind.i64.wrap ((H.length:Int)-1)=((H.length-1:Nat):Int):=by rw[ic (by omega) (by omega)];omega
  have i0:ag (0:Int) (ky H).length:=ED (i:=0) (by simp;omega);have ZZ:H.length-1<(ky H).length:=by simp;omega
  have hl3:H.length-1<((ky H).set 0 (dv H (H.length-1)).pv).length:=by simp;omega
  have g0:(ky H)[0]?=some (dv H 0).pv:=ep (by omega);have gl:(ky H)[H.length-1]?=some (dv H (H.length-1)).pv:=ep (by omega);have g3:∃q,((ky H).set 0 (dv H (H.length-1)).pv)[H.length-1]?=some q:=⟨_,List.getElem?_eq_getElem hl3⟩;obtain⟨q,g3⟩:=g3;have z0:Int.toNat 0=0:=rfl;have gV:(0:Int)≤0∧0≤((H.length-1:Nat):Int)∧((H.length-1:Nat):Int)≤(((((ky H).set 0 (dv H (H.length-1)).pv).set (H.length-1) (dv H 0).pv).length:Nat):Int):=by refine⟨by omega,by omega,?_⟩;simp only[List.length_set,List.length_map];omega
  simp only[hl,e1,if_pos i0,z0,g0,U,if_pos (ED ZZ),Int.toNat_natCast,gl,ndE,if_pos (ED hl3),g3,and_true,if_pos gV,Nat.sub_zero];simp only[nd0,nd1,nd2,CX,←List.map_take,jN];rw[if_pos (by refine⟨by omega,by omega,?_⟩;simp only[List.length_map,gi];omega)];have:=BI hG cP o (dv H 0) pu 0 0 0 (H.length+1) rounds (Hu H) 0 (by simp[Hu];omega) (by unfold rounds;omega) (by omega) ⟨Tm.node,Tm.len,Tm.e,Tm.pu,by simp[Hu];omega⟩;exact this
theorem DI.small{s B:Nat}{o:kP}{pu:Nat}{H:List Nd}(h:DI E n s B o pu H)(hG:Gr E n ks vs)(hB:B≤1073741824)(hn:n≤64):∀x∈H,Sm n E x pu H:=fun x hx=>by have h1:=h.Oh x hx;have h2:=JH n o;have h3:B*AF n o≤1073741824*64:=Nat.mul_le_mul hB (by omega);have h4:=h.cnt;have h5:=h.TU;have h6:=hG.len;exact⟨h.node x hx,by omega,by omega,by omega,by omega⟩
theorem Lf(hG:Gr E n ks vs){s B:Nat}(hs:s<n)(hB:B≤1073741824)(hEB:∀y∈E,y.c≤B)(hn:n≤64):∃o pu,DI E n s B o pu []∧dM.run (dP dM) (.rm 3 ks vs,dC n (fun _=>none),1,[PV.agg [.int .i64 s,.int .i64 0,.int .i64 0,.int .i64 0]],())=some (.rs 3 (dC n o)):=by
 have hE:∀y∈E,y.f<n∧y.t<n∧y.c≤B:=fun y hy=>⟨(hG.node y hy).1,(hG.node y hy).2.1,hEB y hy⟩;have hlen:=hG.len;obtain⟨a,r,hI,⟨h0,hr⟩,lC⟩:=Lb (body:=dP dM) (A:=kP×Nat×List Nd) (fun a=>(PV.rm 3 ks vs,dC n a.1,(a.2.1:Int),ky a.2.2,())) (fun a=>DI E n s B a.1 a.2.1 a.2.2) (fun a=>a.2.2.length+qf E a.1) (fun a r=>a.2.2=[]∧r=some (.rs 3 (dC n a.1))) (fun a hI cP=>by
  obtain⟨o,pu,H⟩:=a;have hI:DI E n s B o pu H:=hI;dsimp only;rw[Le hG cP o pu H (hI.small hG hB hn)];by_cases hH:H.length=0
  ·right;rw[if_pos hH];exact⟨_,⟨List.eq_nil_of_length_eq_zero hH,rfl⟩,rfl⟩
  ·left;rw[if_neg hH];have cq:0<H.length:=by omega
   unfold KR;by_cases oT:(o (dv H 0).n).isSome=true
   ·rw[if_pos oT];refine⟨(o,pu,rest H),hI.skip cq oT,?_,rfl⟩;have:=(CV hI.hp cq).2.1;dsimp only;omega
   ·rw[if_neg oT];have vB:o (dv H 0).n=none:=by simpa using oT
    obtain⟨s1,s2⟩:=hI.settle hE cq vB;exact⟨(_,_,_),s1,s2,rfl⟩) rounds ((fun _=>none),1,[⟨s,0,0,0⟩]) (DI.start hs) (by
  have:qf E (fun _=>none)≤E.length:=List.countP_le_length;simp only[List.length_cons,List.length_nil];unfold rounds;omega)
 obtain⟨o,pu,H⟩:=a;dsimp only at h0 hr hI;subst h0;refine⟨o,pu,hI,?_⟩;rw[jN,←hr,←lC];rfl
theorem Lg(hG:Gr E n ks vs){s B:Nat}(hs:s<n)(hB:B≤1073741824)(hEB:∀y∈E,y.c≤B)(hn:n≤64):∃o pu,DI E n s B o pu []∧cZ [.int .i64 n,.rm 3 ks vs,.int .i64 s]=some (.rs 3 (dC n o)):=by
 obtain⟨o,pu,hI,h⟩:=Lf hG hs hB hEB hn;refine⟨o,pu,hI,?_⟩;have dc:(0:Int)≤(n:Int)∧(n:Int)≤(n:Int)∧n*24≤aa∧0<24∧0<3:=by refine⟨by omega,by omega,?_,by omega,by omega⟩;unfold aa;omega
 simp only[cZ,lM,EE,U,dF,if_true,if_pos dc,Int.toNat_natCast,List.length_replicate];have fill:∀k,k≤n→((List.range n).map fun v=>if v<k then nL v none else PV.agg [.int .i64 0,.int .i64 0,.int .i64 0]).length=n:=fun k _=>by simp
 refine cU (fun k=>(PV.rm 3 ks vs,(s:Int),(n:Int),(k:Int),(List.range n).map (fun v=>if v<k then nL v none else PV.agg [.int .i64 0,.int .i64 0,.int .i64 0]),())) n (fun k hk rec=>?_) (fun rec=>?_) (by unfold rounds;omega) ?_
 ·unfold fD;dsimp only;have hg:decide ((k:Int)<(n:Int))=true:=by simp;omega
  have qA:ag (k:Int) ((List.range n).map fun v=>if v<k then nL v none else PV.agg [.int .i64 0,.int .i64 0,.int .i64 0]).length:=ED (by rw[fill k (by omega)];exact hk);have ep:((List.range n).map fun v=>if v<k then nL v none else PV.agg [.int .i64 0,.int .i64 0,.int .i64 0])[k]?=some (PV.agg [.int .i64 0,.int .i64 0,.int .i64 0]):=by simp[hk]
  have oT:((List.range n).map fun v=>if v<k then nL v none else PV.agg [.int .i64 0,.int .i64 0,.int .i64 0]).set k (.agg [.int .i64 k,.int .i64 (-1),.int .i64 (-1)])=(List.range n).map fun v=>if v<k+1 then nL v none else PV.agg [.int .i64 0,.int .i64 0,.int .i64 0]:=by
   apply List.ext_getElem?;intro i;rw[List.getElem?_set];by_cases e:k=i
   ·subst e;simp[hk,nL]
   ·rw[if_neg e];by_cases hi:i<n
    ·simp only[List.getElem?_map,List.getElem?_range hi,Option.map_some];by_cases h1:i<k
     ·rw[if_pos h1,if_pos (by omega)]
     ·rw[if_neg h1,if_neg (by omega)]
    ·rw[List.getElem?_eq_none (by simp;omega),List.getElem?_eq_none (by simp;omega)]
  rw[if_pos hg,if_pos qA,Int.toNat_natCast,ep,U,oT,aI (by omega)]
 ·unfold fD;dsimp only;have hg:¬decide ((n:Int)<(n:Int))=true:=by simp
  have e0:IntKind.i64.wrap ((1:Nat)-1:Int)=0:=by decide
  have e1:IntKind.i64.wrap (0+1)=1:=by decide
  have Ge:((List.range n).map fun v=>if v<n then nL v none else PV.agg [.int .i64 0,.int .i64 0,.int .i64 0])=dC n (fun _=>none):=by unfold dC;apply List.map_congr_left;intro v hv;rw[if_pos (List.mem_range.1 hv)]
  rw[if_neg hg,Ge,e1];refine Eq.trans ?_ h;have first:∀N,cd (fE dM) (N+1) (IntKind.i64.wrap (((1:Nat):Int)-1),PV.rm 3 ks vs,1,dC n (fun _=>none),[PV.agg [.int .i64 s,.int .i64 0,.int .i64 0,.int .i64 0]],())=dM.run (dP dM) (.rm 3 ks vs,dC n (fun _=>none),1,[PV.agg [.int .i64 s,.int .i64 0,.int .i64 0,.int .i64 0]],()):=fun N=>by
   simp only[cd];generalize cd (fE dM) N=rec;unfold fE;dsimp only;have hg:decide (IntKind.i64.wrap (((1:Nat):Int)-1)>0)=false:=by decide
   rw[hg,cond_false,U,if_neg (by simp)]
  exact first 18446744073709551615
 ·congr 1;have:((List.range n).map fun v=>if v<0 then nL v none else PV.agg [.int .i64 0,.int .i64 0,.int .i64 0])=List.replicate n (PV.agg [.int .i64 0,.int .i64 0,.int .i64 0]):=by
   apply List.ext_getElem?;intro i;by_cases hi:i<n
   ·simp[hi,List.getElem?_replicate]
   ·rw[List.getElem?_eq_none (by simp;omega),List.getElem?_eq_none (by simp;omega)]
  rw[this];rfl
end
end Go.Ab.Nw
namespace Go.Ab.Nw
set_option maxRecDepth 100000
set_option linter.unusedVariables false
set_option linter.unusedSimpArgs false
theorem QP{S R:Type}{body:S→(S→Option R)→Option R}{s:S}{r:Option R}(h:∀rec,body s rec=r):dM.run body s=r:=cU (fun _=>s) 0 (fun k hk=>by omega) h (by unfold rounds;omega) rfl
def nM(n k:Nat)(F:Nat→PV)(z:PV):List PV:=(List.range n).map fun v=>if v<k then F v else z
theorem EF(n k:Nat)(F:Nat→PV)(z:PV):(nM n k F z).length=n:=by simp[nM]
theorem EG{n k:Nat}{F:Nat→PV}{z:PV}(hk:k<n):(nM n k F z)[k]?=some z:=by simp[nM,hk]
theorem EH{n k:Nat}{F:Nat→PV}{z:PV}(hk:k<n):(nM n k F z).set k (F k)=nM n (k+1) F z:=by
 apply List.ext_getElem?;intro i;rw[List.getElem?_set];by_cases e:k=i
 ·subst e;simp[nM,hk]
 ·rw[if_neg e];unfold nM;by_cases hi:i<n
  ·simp only[List.getElem?_map,List.getElem?_range hi,Option.map_some];by_cases h1:i<k
   ·rw[if_pos h1,if_pos (by omega)]
   ·rw[if_neg h1,if_neg (by omega)]
  ·rw[List.getElem?_eq_none (by simp;omega),List.getElem?_eq_none (by simp;omega)]
theorem BJ(n:Nat)(F:Nat→PV)(z:PV):nM n 0 F z=List.replicate n z:=by
 unfold nM;apply List.ext_getElem?;intro i;by_cases hi:i<n
 ·simp[hi,List.getElem?_replicate]
 ·rw[List.getElem?_eq_none (by simp;omega),List.getElem?_eq_none (by simp;omega)]
theorem EI(n:Nat)(F:Nat→PV)(z:PV):nM n n F z=(List.range n).map F:=by unfold nM;apply List.map_congr_left;intro v hv;rw[if_pos (List.mem_range.1 hv)]
def CZ:UX→Int
 |none=> -1
 |some (L,_)=>L
theorem aaZ(v:Nat)(l:UX):asInt .i64 (cell (nL v l) 1)=some (CZ l):=by
 cases l with
 |none=>rfl
 |some p=>obtain⟨L,e⟩:=p;rfl
theorem Hv(n:Nat)(hn:n≤64)(o:kP):dn [.rs 3 (dC n o)]=some (.rs 1 ((List.range n).map fun v=>.int .i64 (CZ (o v)))):=by
 have e0:ae 3 (.rs 3 (dC n o))=some (dC n o):=by simp[ae]
 have dc:(0:Int)≤((n:Nat):Int)∧((n:Nat):Int)≤((n:Nat):Int)∧n*8≤aa∧0<8∧0<1:=by refine⟨by omega,by omega,?_,by omega,by omega⟩;unfold aa;omega
 simp only[dn,kL,e0,U,mf,Int.toNat_natCast,if_pos dc];refine cU (fun k=>(dC n o,(n:Int),(k:Int),nM n k (fun v=>.int .i64 (CZ (o v))) (.int .i64 0),())) n (fun k hk rec=>?_) (fun rec=>?_) (by unfold rounds;omega) ?_
 ·unfold iI;dsimp only;have hg:decide ((k:Int)<(n:Int))=true:=by simp;omega
  rw[if_pos hg,aV,mh o hk,U,aaZ,U,if_pos (ED (by rw[EF];exact hk)),Int.toNat_natCast,EG hk,U,aI (by omega)];rw[EH (F:=fun v=>PV.int .i64 (CZ (o v))) hk]
 ·unfold iI;dsimp only;rw[if_neg (by simp),EI]
 ·rw[BJ];rfl
theorem On(i n:Nat)(h:i<n):bZ [.int .i64 i,.rp [.int .i64 n]]=some (.bool false):=by
 have h1:decide ((i:Int)<0)=false:=by simp
 have h2:decide ((i:Int)≥(n:Int))=false:=by simp;omega
 simp only[bZ,kK,EE,U,h1,cond_false,h2]
theorem ed0(y:Ed):cell y.pv 0=.int .i64 y.f:=rfl
theorem Oo(E:List Ed)(n:Nat)(hn:n≤64)(hE:E.length≤4096)(h:∀y∈E,y.f<n∧y.t<n∧y.c≤1073741824):eg [.int .i64 n,.rs 3 (E.map Ed.pv),.rs 0 []]=some (.int .i64 0):=by
 have e0:ae 3 (.rs 3 (E.map Ed.pv))=some (E.map Ed.pv):=by simp[ae]
 have e1:ae 1 (.rs 0 [])=some []:=by simp[ae]
 have h1:decide ((n:Int)<0)=false:=by simp
 have h2:decide ((n:Int)>64)=false:=by simp;omega
 have h3:¬decide (((E.map Ed.pv).length:Int)>4096)=true:=by simp;omega
 simp only[eg,mS,EE,e0,e1,U,h1,h2,cond_false,Bool.false_eq_true,if_false,if_neg h3];refine cU (fun k=>(([]:List PV),E.map Ed.pv,((E.map Ed.pv).length:Int),(k:Int),(n:Int),())) E.length (fun k hk rec=>?_) (fun rec=>?_) (by unfold rounds;omega) rfl
 ·unfold ki;dsimp only;have hg:decide ((k:Int)<((E.map Ed.pv).length:Int))=true:=by simp;omega
  obtain⟨z,hz⟩:∃z,E[k]?=some z:=⟨_,List.getElem?_eq_getElem hk⟩;have Cq:(E.map Ed.pv)[k]?=some z.pv:=by rw[List.getElem?_map,hz];rfl
  obtain⟨a1,a2,a3⟩:=h z (List.mem_of_getElem? hz);have h4:decide ((z.c:Int)<0)=false:=by simp
  have h5:decide ((z.c:Int)>1073741824)=false:=by simp;omega
  simp only[hg,if_true,aV,Cq,U,ed0,ed1,ed2,EE,On _ _ a1,On _ _ a2,asBool,cond_false,Bool.false_eq_true,if_false,h4,h5,aI (show k<9223372036854775807 by omega)]
 ·unfold ki;dsimp only;rw[if_neg (by simp)];refine QP fun rec=>?_;unfold nN;dsimp only;rw[if_neg (by simp)]
abbrev C0:=List (Nat×List Ed)
def C1(z:Ed):C0→C0
 |[]=>[(z.f,[z])]
 |(a,l)::r=>if z.f=a then(a,l++[z])::r else(a,l)::C1 z r
def lz(v:Nat):C0→List Ed
 |[]=>[]
 |(a,l)::r=>if v=a then l else lz v r
def BK(m:C0):List (PV×PV):=m.map fun x=>(.int .i64 x.1,.gC 3 (x.2.map Ed.pv))
theorem Oq(a b:Nat):cA (PV.int .i64 a).cells (PV.int .i64 b).cells=decide (a=b):=by
 have:((a:Int)==(b:Int))=decide (a=b):=by
  by_cases h:a=b
  ·simp[h]
  ·rw[decide_eq_false h,beq_eq_false_iff_ne];omega
 simp only[PV.cells,cA,peq,Bool.and_true,this]
theorem WW(v:Nat):∀m:C0,Dl 3 (.int .i64 v) (BK m)=some ((lz v m).map Ed.pv)
 |[]=>rfl
 |(a,l)::r=>by
  have ih:=WW v r;unfold BK at ih⊢;simp only[List.map_cons,Dl,lz,Oq];by_cases h:v=a
  ·simp[h,bj]
  ·simp only[h,decide_false,Bool.false_eq_true,if_false];exact ih
theorem JJ(z:Ed):∀m:C0,eA (.int .i64 z.f) (.gC 3 ((lz z.f m).map Ed.pv++[z.pv])) (nA (.int .i64 z.f) (BK m))=BK (C1 z m)
 |[]=>by simp[BK,nA,eA,C1,lz]
 |(a,l)::r=>by
  have ih:=JJ z r;unfold BK at ih⊢;simp only[List.map_cons,nA,C1,lz,Oq];by_cases h:z.f=a
  ·subst h;simp[eA,Oq]
  ·simp only[h,decide_false,Bool.false_eq_true,if_false,eA,Oq,List.map_cons];rw[ih]
theorem BL(v:Nat)(z:Ed):∀m:C0,lz v (C1 z m)=lz v m++(if z.f=v then[z]else[])
 |[]=>by
  simp only[C1,lz];by_cases h:v=z.f
  ·simp[h]
  ·rw[if_neg h,if_neg fun e=>h e.symm];rfl
 |(a,l)::r=>by
  simp only[C1];by_cases h:z.f=a
  ·subst h;simp only[if_true,lz];by_cases hv:v=z.f
   ·simp[hv]
   ·rw[if_neg hv,if_neg hv,if_neg fun e=>hv e.symm];simp
  ·rw[if_neg h];simp only[lz];by_cases hv:v=a
   ·subst hv;rw[if_pos rfl,if_pos rfl,if_neg h];simp
   ·rw[if_neg hv,if_neg hv];exact BL v z r
def sB(E:List Ed):C0:=E.foldl (fun m z=>C1 z m) []
theorem BM(E:List Ed)(z:Ed):sB (E++[z])=C1 z (sB E):=by simp[sB]
theorem BN(v:Nat)(E:List Ed):lz v (sB E)=E.filter fun y=>y.f==v:=by
 rw[←List.reverse_reverse E];induction E.reverse with
 |nil=>rfl
 |cons z l ih=>
  rw[List.reverse_cons,BM,BL,ih,List.filter_append];by_cases h:z.f=v
  ·simp[h]
  ·simp[h]
theorem WX(v:Nat):∀m:C0,ae 3 (dB (.int .i64 v) (.rs 0 []) (((BK m).map fun x=>x.1).zip ((BK m).map fun x=>x.2.kE)))=some ((lz v m).map Ed.pv)
 |[]=>by simp[BK,dB,ae,lz]
 |(a,l)::r=>by
  have ih:=WX v r;unfold BK at ih⊢;simp only[List.map_cons,List.zip_cons_cons,dB,Oq,lz];by_cases h:v=a
  ·simp[h,PV.kE,ae]
  ·simp only[h,decide_false,Bool.false_eq_true,if_false];exact ih
theorem C2(E:List Ed)(hE:E.length≤4096):cF [.rs 3 (E.map Ed.pv),.bool false]=some (.rm 3 ((BK (sB E)).map fun x=>x.1) ((BK (sB E)).map fun x=>x.2.kE)):=by
 have e0:ae 3 (.rs 3 (E.map Ed.pv))=some (E.map Ed.pv):=by simp[ae]
 simp only[cF,jm,e0,U,asBool];refine cU (fun k=>(false,E.map Ed.pv,((E.map Ed.pv).length:Int),(k:Int),BK (sB (E.take k)),())) E.length (fun k hk rec=>?_) (fun rec=>?_) (by unfold rounds;omega) (by simp[sB,BK])
 ·unfold gy;dsimp only;have hg:decide ((k:Int)<((E.map Ed.pv).length:Int))=true:=by simp;omega
  obtain⟨z,hz⟩:∃z,E[k]?=some z:=⟨_,List.getElem?_eq_getElem hk⟩;have Cq:(E.map Ed.pv)[k]?=some z.pv:=by rw[List.getElem?_map,hz];rfl
  have htk:E.take (k+1)=E.take k++[z]:=by rw[List.take_add_one,hz];rfl
  have Vv:PV.agg [cell z.pv 0,cell z.pv 1,cell z.pv 2]=z.pv:=rfl;have hlen:((lz z.f (sB (E.take k))).map Ed.pv++[z.pv]).length*24≤aa∧0<24:=by
   have:(lz z.f (sB (E.take k))).length≤E.length:=by rw[BN];exact Nat.le_trans (List.length_filter_le ..) (by rw[List.length_take];omega)
   simp only[List.length_append,List.length_map,List.length_cons,List.length_nil];unfold aa;omega
  rw[if_pos hg,aV,Cq,U,if_neg (by simp)];have aa0:PV.agg [.int .i64 z.f,cell z.pv 1,cell z.pv 2]=z.pv:=rfl;simp only[ed0,EE,U,WW,aa0,if_pos hlen];rw[JJ,htk,BM,aI (by omega)]
 ·unfold gy;dsimp only;rw[if_neg (by simp),List.take_length]
theorem Ot(E:List Ed)(n:Nat)(hn:n≤64)(hE:E.length≤4096)(h:∀y∈E,y.f<n∧y.t<n∧y.c≤1073741824):Gr E n ((BK (sB E)).map fun x=>x.1) ((BK (sB E)).map fun x=>x.2.kE):=⟨by omega,by omega,h,fun v _=>by rw[WX,BN]⟩
end Go.Ab.Nw
