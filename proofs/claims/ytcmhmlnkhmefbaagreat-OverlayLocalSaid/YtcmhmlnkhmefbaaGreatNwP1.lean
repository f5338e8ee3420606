import Derived.Test.YtcmhmlnkhmefbaaGreatAbLib
import Derived.Test.YtcmhmlnkhmefbaaGreatSh2
namespace Go.Ab.Nw
section
variable (w:Nat→Nat→Nat→Prop)
def Ao:Nat→Nat→Nat→Nat→Prop
 |0,i,j,L=>w i j L
 |k+1,i,j,L=>Ao k i j L∨∃A B,Ao k i k A∧Ao k k j B∧L=A+B
inductive jx:Nat→Nat→Nat→Prop
 |Co {i j c:Nat}:w i j c→jx i j c
 |snoc {i m j A c:Nat}:jx i m A→w m j c→jx i j (A+c)
end
section
variable {w:Nat→Nat→Nat→Prop}
variable{i j L:Nat}
theorem Ao.up{k:Nat}(h:Ao w k i j L):Ao w (k+1) i j L:=.inl h
theorem Ao.le{k k':Nat}(hk:k≤k')(h:Ao w k i j L):Ao w k' i j L:=by
 induction hk with
 |refl=>exact h
 |step _ ih=>exact ih.up
theorem xv:∀(k:Nat){m i j A B:Nat},m<k→Ao w k i m A→Ao w k m j B→∃C,C≤A+B∧Ao w k i j C
 |0,_,_,_,_,_,h,_,_=>by omega
 |k+1,m,i,j,A,B,h,ha,hb=>by
  by_cases hm:m=k
  ·subst hm;have h1:∃A',A'≤A∧Ao w m i m A':=by
    rcases ha with ha|⟨X,Y,x,y,e⟩
    ·exact⟨A,Nat.le_refl _,ha⟩
    ·exact⟨X,by omega,x⟩
   have h2:∃B',B'≤B∧Ao w m m j B':=by
    rcases hb with hb|⟨X,Y,x,y,e⟩
    ·exact⟨B,Nat.le_refl _,hb⟩
    ·exact⟨Y,by omega,y⟩
   obtain⟨A',a1,a2⟩:=h1;obtain⟨B',b1,b2⟩:=h2;exact⟨A'+B',by omega,.inr ⟨A',B',a2,b2,rfl⟩⟩
  ·have bt:m<k:=by omega
   rcases ha with ha|⟨X,Y,x,y,e⟩
   ·rcases hb with hb|⟨X',Y',x',y',e'⟩
    ·obtain⟨C,c1,c2⟩:=xv k bt ha hb;exact⟨C,c1,.inl c2⟩
    ·obtain⟨C,c1,c2⟩:=xv k bt ha x';exact⟨C+Y',by omega,.inr ⟨C,Y',c2,y',rfl⟩⟩
   ·rcases hb with hb|⟨X',Y',x',y',e'⟩
    ·obtain⟨C,c1,c2⟩:=xv k bt y hb;exact⟨X+C,by omega,.inr ⟨X,C,x,c2,rfl⟩⟩
    ·exact⟨X+Y',by omega,.inr ⟨X,Y',x,y',rfl⟩⟩
theorem jx.join{m A B:Nat}(h1:jx w i m A)(h2:jx w m j B):jx w i j (A+B):=by
 induction h2 with
 |Co h=>exact .snoc h1 h
 |snoc _ h ih=>rw[←Nat.add_assoc];exact .snoc ih h
theorem Ao.walk:∀{k i j L:Nat},Ao w k i j L→jx w i j L
 |0,_,_,_,h=>.Co h
 |k+1,i,j,L,.inl h=>Ao.walk (k:=k) h
 |k+1,i,j,L,.inr ⟨A,B,h1,h2,e⟩=>by rw[e];exact(Ao.walk (k:=k) h1).join (Ao.walk (k:=k) h2)
theorem jx.via{n:Nat}(hn:∀i j c,w i j c→i<n)(h:jx w i j L):∃C,C≤L∧Ao w n i j C:=by
 induction h with
 |Co h=>exact⟨_,Nat.le_refl _,Ao.le (Nat.zero_le _) (show Ao w 0 _ _ _ from h)⟩
 |snoc _ h ih=>obtain⟨C,c1,c2⟩:=ih;obtain⟨D,d1,d2⟩:=xv n (hn _ _ _ h) c2 (Ao.le (Nat.zero_le _) (show Ao w 0 _ _ _ from h));exact⟨D,by omega,d2⟩
variable{w':Nat→Nat→Nat→Prop}
theorem jx.mono(hw:∀i j c,w i j c→w' i j c)(h:jx w i j L):jx w' i j L:=by
 induction h with
 |Co h=>exact .Co (hw _ _ _ h)
 |snoc _ h ih=>exact .snoc ih (hw _ _ _ h)
theorem jx.leq(hw:∀i j c,w i j c→∃c',c'≤c∧w' i j c')(h:jx w i j L):∃L',L'≤L∧jx w' i j L':=by
 induction h with
 |Co h=>obtain⟨c',h1,h2⟩:=hw _ _ _ h;exact⟨c',h1,.Co h2⟩
 |snoc _ h ih=>obtain⟨c',h1,h2⟩:=hw _ _ _ h;obtain⟨L',l1,l2⟩:=ih;exact⟨L'+c',by omega,.snoc l2 h2⟩
def M7(w:Nat→Nat→Nat→Prop)(i j:Nat)(o:Option Nat):Prop:=match o with
 |some L=>jx w i j L∧∀L',jx w i j L'→L≤L'
 |none=>∀L',¬jx w i j L'
theorem M7.unique{o o':Option Nat}(h:M7 w i j o)(h':M7 w i j o'):o=o':=by
 cases o with
 |none=>cases o' with
  |none=>rfl
  |some L=>exact absurd h'.1 (h L)
 |some L=>cases o' with
  |none=>exact absurd h.1 (h' L)
  |some L'=>rw[Nat.le_antisymm (h.2 _ h'.1) (h'.2 _ h.1)]
structure Fw(w:Nat→Nat→Nat→Prop)(inf:Nat)(n:Nat)(d:Nat→Nat→Nat):Prop where
 top:∀i j,i<n→j<n→d i j≤inf
 real:∀i j,i<n→j<n→d i j<inf→jx w i j (d i j)
def pk(w:Nat→Nat→Nat→Prop)(k i j:Nat)(x:Nat):Prop:=∀L,Ao w k i j L→x≤L
variable{d:Nat→Nat→Nat}
theorem UH{inf n k:Nat}(h:Fw w inf n d)(hi:i<n)(hj:j<n)(hk:k<n){x:Nat}(hx:x=min (d i j) (d i k+d k j)){d':Nat→Nat→Nat}(hd:∀a b,d' a b=if a=i∧b=j then x else d a b):Fw w inf n d'∧(∀a b,d' a b≤d a b)∧(pk w k i k (d i k)→pk w k k j (d k j)→pk w k i j (d i j)→pk w (k+1) i j (d' i j)):=by
 refine⟨⟨fun a b ha hb=>?_,fun a b ha hb bt=>?_⟩,fun a b=>?_,fun h1 h2 h3 L hL=>?_⟩
 ·rw[hd];split
  ·have:=h.top i j hi hj;omega
  ·exact h.top a b ha hb
 ·rw[hd]at bt⊢;split
  ·rename_i e;rw[if_pos e]at bt;obtain⟨rfl,rfl⟩:=e;by_cases hm:d a b≤d a k+d k b
   ·rw[show x=d a b by omega]at bt⊢;exact h.real a b ha hb bt
   ·have e2:x=d a k+d k b:=by omega
    rw[e2]at bt⊢;exact(h.real a k ha hk (by omega)).join (h.real k b hk hb (by omega))
  ·rename_i e;rw[if_neg e]at bt;exact h.real a b ha hb bt
 ·rw[hd];split
  ·rename_i e;obtain⟨rfl,rfl⟩:=e;omega
  ·exact Nat.le_refl _
 ·rw[hd,if_pos ⟨rfl,rfl⟩];rcases hL with hL|⟨A,B,a1,a2,e⟩
  ·have:=h3 _ hL;omega
  ·have:=h1 _ a1;have:=h2 _ a2;omega
theorem UI{inf n:Nat}(hn:∀i j c,w i j c→i<n)(h:Fw w inf n d)(hi:i<n)(hj:j<n)(hb:pk w n i j (d i j))(ng:∀L,(∀L',jx w i j L'→L≤L')→jx w i j L→L<inf):M7 w i j (if d i j<inf then some (d i j)else none):=by
 have low:∀L,jx w i j L→d i j≤L:=fun L hL=>by obtain⟨C,c1,c2⟩:=hL.via hn;exact Nat.le_trans (hb C c2) c1
 split
 ·rename_i bt;exact⟨h.real i j hi hj bt,low⟩
 ·rename_i CR;intro L hL;have key:∀m,(∃L,L≤m∧jx w i j L)→∃L,jx w i j L∧∀L',jx w i j L'→L≤L':=by
   intro m;induction m with
   |zero=>rintro⟨L,hl,hw⟩;exact⟨L,hw,fun L' _=>by omega⟩
   |succ m ih=>
    rintro⟨L,hl,hw⟩;by_cases he:∃L,L≤m∧jx w i j L
    ·exact ih he
    ·refine⟨L,hw,fun L' hw'=>?_⟩;have:¬L'≤m:=fun hle=>he ⟨L',hle,hw'⟩;omega
  obtain⟨L0,h1,h2⟩:=key L ⟨L,Nat.le_refl _,hL⟩;have:=ng L0 h2 h1;have:=low L0 h1;omega
end
end Go.Ab.Nw
namespace Go.Ab.Nw
structure Nd where
 n:Nat
 len:Nat
 e:Nat
 num:Nat
 deriving DecidableEq,Inhabited
def AF(a b:Nd):Bool:=decide (a.len<b.len∨(a.len=b.len∧(a.e<b.e∨(a.e=b.e∧a.num<b.num))))
def sy(a b:Nd):Prop:=AF b a=false
theorem M8(a b:Nd):AF a b=true↔(a.len<b.len∨(a.len=b.len∧(a.e<b.e∨(a.e=b.e∧a.num<b.num)))):=by simp[AF]
theorem xw(a b:Nd):sy a b↔¬(b.len<a.len∨(b.len=a.len∧(b.e<a.e∨(b.e=a.e∧b.num<a.num)))):=by unfold sy;rw[←M8];simp
theorem yQ(a:Nd):sy a a:=by rw[xw];omega
theorem sA{a b c:Nd}(h:sy a b)(k:sy b c):sy a c:=by rw[xw]at*;omega
theorem uq{a b:Nd}(h:AF a b=true):sy a b:=by rw[xw];rw[M8]at h;omega
theorem R3{a b:Nd}(h:sy a b):a.len≤b.len:=by rw[xw]at h;omega
def dH(a:List Nd)(i:Nat):Nd:=a.getD i default
variable{a:List Nd}{i:Nat}
theorem E9(h:i<a.length):a[i]?=some (dH a i):=by simp[dH,List.getD,h]
def swp(a:List Nd)(i k:Nat):List Nd:=(a.set i (dH a k)).set k (dH a i)
@[simp] theorem gR(a:List Nd)(i k:Nat):(swp a i k).length=a.length:=by simp[swp]
theorem R4(a:List Nd)(i j:Nat)(x:Nd)(h:i<a.length):dH (a.set i x) j=if j=i then x else dH a j:=by
 unfold dH List.getD;rw[List.getElem?_set];by_cases e:i=j
 ·subst e;simp[h]
 ·rw[if_neg e,if_neg fun h=>e h.symm]
theorem lF(a:List Nd)(i k j:Nat)(hi:i<a.length)(hk:k<a.length):dH (swp a i k) j=if j=k then dH a i else if j=i then dH a k else dH a j:=by unfold swp;rw[R4 _ _ _ _ (by simpa using hk),R4 _ _ _ _ hi]
theorem yR{x:Nd}:x∈a↔∃i,i<a.length∧dH a i=x:=by
 rw[List.mem_iff_getElem?];constructor
 ·rintro⟨i,h⟩;have hi:=(List.getElem?_eq_some_iff.1 h).1;rw[E9 hi]at h;exact⟨i,hi,by simpa using h⟩
 ·rintro⟨i,hi,h⟩;exact⟨i,by rw[E9 hi,h]⟩
theorem AG{k:Nat}(hi:i<a.length)(hk:k<a.length)(x:Nd):x∈swp a i k↔x∈a:=by
 rw[yR,yR];constructor
 ·rintro⟨j,hj,h⟩;rw[lF _ _ _ _ hi hk]at h;split at h
  ·exact⟨i,hi,h⟩
  ·split at h
   ·exact⟨k,hk,h⟩
   ·exact⟨j,by simpa using hj,h⟩
 ·rintro⟨j,hj,h⟩;by_cases e1:j=i
  ·subst e1;refine⟨k,by simpa using hk,?_⟩;rw[lF _ _ _ _ hi hk,if_pos rfl,h]
  ·by_cases e2:j=k
   ·subst e2;refine⟨i,by simpa using hi,?_⟩;rw[lF _ _ _ _ hi hk];split
    ·rename_i e;exact absurd e.symm e1
    ·rw[if_pos rfl,h]
   ·exact⟨j,by simpa using hj,by rw[lF _ _ _ _ hi hk,if_neg e2,if_neg e1,h]⟩
def Hp(a:List Nd):Prop:=∀j,0<j→j<a.length→sy (dH a ((j-1)/2)) (dH a j)
theorem Hp.min(h:Hp a):∀j,j<a.length→sy (dH a 0) (dH a j):=by
 intro j;induction j using Nat.strongRecOn with
 |ind j ih=>
  intro hj;by_cases h0:j=0
  ·subst h0;exact yQ _
  ·exact sA (ih ((j-1)/2) (by omega) (by omega)) (h j (by omega) hj)
def UJ(a:List Nd)(i:Nat):Prop:=(∀j,0<j→j<a.length→j≠i→sy (dH a ((j-1)/2)) (dH a j))∧∀c,0<c→c<a.length→(c-1)/2=i→0<i→sy (dH a ((i-1)/2)) (dH a c)
theorem UJ.done(h:UJ a i)(hi:i<a.length)(hs:i=0∨AF (dH a i) (dH a ((i-1)/2))=false):Hp a:=by
 intro j h0 hj;by_cases e:j=i
 ·subst e;rcases hs with hs|hs
  ·omega
  ·exact hs
 ·exact h.1 j h0 hj e
theorem UJ.step(h:UJ a i)(h0:0<i)(hi:i<a.length)(hb:AF (dH a i) (dH a ((i-1)/2))=true):UJ (swp a i ((i-1)/2)) ((i-1)/2):=by
 have hp:(i-1)/2<a.length:=by omega
 have hpi:(i-1)/2<i:=by omega
 obtain⟨p,CT⟩:∃p,p=(i-1)/2:=⟨_,rfl⟩;rw[←CT]at hp hpi hb⊢;have hle:=uq hb;refine⟨fun j j0 hj cR=>?_,fun c c0 hc Ts CI=>?_⟩
 ·rw[gR]at hj;rw[lF _ _ _ _ hi hp,lF _ _ _ _ hi hp,if_neg cR];by_cases e1:j=i
  ·subst e1;rw[←CT,if_pos rfl,if_pos rfl];exact hle
  ·rw[if_neg e1];by_cases e2:(j-1)/2=p
   ·rw[if_pos e2];have:=h.1 j j0 hj e1;rw[e2]at this;exact sA hle this
   ·rw[if_neg e2];by_cases e3:(j-1)/2=i
    ·rw[if_pos e3];have:=h.2 j j0 hj e3 h0;rw[←CT]at this;exact this
    ·rw[if_neg e3];exact h.1 j j0 hj e1
 ·rw[gR]at hc;have hpp:(p-1)/2≠p∧(p-1)/2≠i:=by omega
  rw[lF _ _ _ _ hi hp,lF _ _ _ _ hi hp,if_neg hpp.1,if_neg hpp.2];have h1:=h.1 p CI hp (by omega);by_cases e1:c=p
  ·omega
  ·rw[if_neg e1];by_cases e2:c=i
   ·rw[if_pos e2];exact h1
   ·rw[if_neg e2];have:=h.1 c c0 hc e2;rw[Ts]at this;exact sA h1 this
theorem UJ.start(h:Hp a)(x:Nd):UJ (a++[x]) a.length:=by
 have VY:∀j,j<a.length→dH (a++[x]) j=dH a j:=fun j hj=>by simp[dH,List.getD,List.getElem?_append_left hj]
 refine⟨fun j j0 hj cR=>?_,fun c c0 hc Ts h0=>?_⟩
 ·have:j<a.length:=by simp at hj;omega
  rw[VY _ (by omega),VY _ this];exact h j j0 this
 ·simp at hc;omega
def UK(a:List Nd)(i:Nat):Prop:=(∀j,0<j→j<a.length→(j-1)/2≠i→sy (dH a ((j-1)/2)) (dH a j))∧∀c,0<c→c<a.length→(c-1)/2=i→0<i→sy (dH a ((i-1)/2)) (dH a c)
theorem UK.done(h:UK a i)(hs:∀c,0<c→c<a.length→(c-1)/2=i→sy (dH a i) (dH a c)):Hp a:=by
 intro j h0 hj;by_cases e:(j-1)/2=i
 ·rw[e];exact hs j h0 hj e
 ·exact h.1 j h0 hj e
theorem UK.step{k:Nat}(h:UK a i)(hk:k<a.length)(Ua:k=2*i+1∨k=2*i+2)(T3:∀c,0<c→c<a.length→(c-1)/2=i→sy (dH a k) (dH a c))(hb:AF (dH a k) (dH a i)=true):UK (swp a i k) k:=by
 have hi:i<a.length:=by omega
 have hle:=uq hb;have hpk:(k-1)/2=i:=by omega
 refine⟨fun j j0 hj cR=>?_,fun c c0 hc Ts Z2=>?_⟩
 ·rw[gR]at hj;rw[lF _ _ _ _ hi hk,lF _ _ _ _ hi hk,if_neg cR];by_cases e1:j=k
  ·subst e1;rw[hpk,if_pos rfl,if_pos rfl];exact hle
  ·rw[if_neg e1];by_cases e2:(j-1)/2=i
   ·rw[if_pos e2,if_neg (by omega)];exact T3 j j0 hj e2
   ·rw[if_neg e2];by_cases e3:j=i
    ·rw[if_pos e3];have:=h.2 k (by omega) hk hpk (by omega);rw[e3];exact this
    ·rw[if_neg e3];exact h.1 j j0 hj e2
 ·rw[gR]at hc;rw[lF _ _ _ _ hi hk,lF _ _ _ _ hi hk,hpk,if_neg (by omega),if_pos rfl,if_neg (by omega),if_neg (by omega)];have:=h.1 c c0 hc (by omega);rw[Ts]at this;exact this
theorem UK.start(h:Hp a)(cR:0<a.length):UK ((swp a 0 (a.length-1)).take (a.length-1)) 0:=by
 have hl:((swp a 0 (a.length-1)).take (a.length-1)).length=a.length-1:=by simp
 have VY:∀j,0<j→j<a.length-1→dH ((swp a 0 (a.length-1)).take (a.length-1)) j=dH a j:=fun j j0 hj=>by
  have:dH ((swp a 0 (a.length-1)).take (a.length-1)) j=dH (swp a 0 (a.length-1)) j:=by simp[dH,List.getD,List.getElem?_take_of_lt hj]
  rw[this,lF _ _ _ _ (by omega) (by omega),if_neg (by omega),if_neg (by omega)]
 refine⟨fun j j0 hj cR=>?_,fun c _ _ _ h0=>by omega⟩;rw[hl]at hj;rw[VY j j0 hj,VY _ (by omega) (by omega)];exact h j j0 (by omega)
theorem M9(cR:0<a.length)(y:Nd):(y∈(swp a 0 (a.length-1)).take (a.length-1)→y∈a)∧(y∈a→y=dH a 0∨y∈(swp a 0 (a.length-1)).take (a.length-1)):=by
 refine⟨fun h=>(AG cR (by omega) y).1 (List.mem_of_mem_take h),fun h=>?_⟩;have h:=(AG (i:=0) (k:=a.length-1) cR (by omega) y).2 h;rw[yR]at h;obtain⟨j,hj,e⟩:=h;rw[gR]at hj;by_cases hl:j=a.length-1
 ·left;rw[lF _ _ _ _ cR (by omega),if_pos hl]at e;exact e.symm
 ·right;rw[List.mem_iff_getElem?];refine⟨j,?_⟩;rw[List.getElem?_take_of_lt (by omega),E9 (by simpa using hj),e]
end Go.Ab.Nw
namespace Go.Ab.Nw
theorem O8{S R A:Type}{body:S→(S→Option R)→Option R}(st:A→S)(I:A→Prop)(m:A→Nat)(fin:A→Option R→Prop)(h:∀a,I a→∀rec,(∃a',I a'∧m a'<m a∧body (st a) rec=rec (st a'))∨(∃r,fin a r∧body (st a) rec=r)):∀N a,I a→m a<N→∃a' r,I a'∧fin a' r∧cG body N (st a)=r:=by
 intro N;induction N with
 |zero=>intro a _ h;omega
 |succ N ih=>
  intro a hI hm;simp only[cG];rcases h a hI (cG body N)with⟨a',h1,h2,h3⟩|⟨r,h1,h2⟩
  ·obtain⟨a2,r,i1,i2,i3⟩:=ih a' h1 (by omega);exact⟨a2,r,i1,i2,by rw[h3];exact i3⟩
  ·exact⟨a,r,hI,h1,h2⟩
def up:Nat→List Nd→Nat→List Nd
 |0,a,_=>a
 |f+1,a,i=>if 0<i∧AF (dH a i) (dH a ((i-1)/2))=true then up f (swp a i ((i-1)/2)) ((i-1)/2)else a
def push(a:List Nd)(x:Nd):List Nd:=up (a.length+1) (a++[x]) a.length
def DR(a:List Nd)(i:Nat):Nat:=if 2*i+1+1<a.length∧AF (dH a (2*i+1+1)) (dH a (2*i+1))=true then 2*i+1+1 else 2*i+1
def down:Nat→List Nd→Nat→List Nd
 |0,a,_=>a
 |f+1,a,i=>if a.length≤2*i+1 then a else if AF (dH a (DR a i)) (dH a i)=true then down f (swp a i (DR a i)) (DR a i)else a
def KP(a:List Nd):List Nd:=(swp a 0 (a.length-1)).take (a.length-1)
def rest(a:List Nd):List Nd:=down (a.length+1) (KP a) 0
theorem V3:∀(f:Nat){a:List Nd}{i:Nat},i<f→i<a.length→UJ a i→Hp (up f a i)∧(up f a i).length=a.length∧∀x,x∈up f a i↔x∈a
 |0,_,_,h,_,_=>by omega
 |f+1,a,i,hf,hi,h=>by
  unfold up;split
  ·rename_i hc;have hp:(i-1)/2<a.length:=by omega
   obtain⟨h1,h2,h3⟩:=V3 f (a:=swp a i ((i-1)/2)) (i:=(i-1)/2) (by omega) (by rw[gR];exact hp) (h.step hc.1 hi hc.2);exact⟨h1,by rw[h2,gR],fun x=>by rw[h3,AG hi hp]⟩
  ·rename_i hc;refine⟨h.done hi ?_,rfl,fun x=>Iff.rfl⟩;by_cases h0:i=0
   ·exact .inl h0
   ·right;cases hb:AF (dH a i) (dH a ((i-1)/2))with
    |false=>rfl
    |true=>exact absurd ⟨by omega,hb⟩ hc
variable{a:List Nd}
theorem UL(h:Hp a)(x:Nd):Hp (push a x)∧(push a x).length=a.length+1∧∀y,y∈push a x↔y∈a∨y=x:=by obtain⟨h1,h2,h3⟩:=V3 (a.length+1) (a:=a++[x]) (i:=a.length) (by omega) (by simp) (UJ.start h x);exact⟨h1,by unfold push;rw[h2];simp,fun y=>by unfold push;rw[h3];simp⟩
theorem R5{i:Nat}(h:¬a.length≤2*i+1):DR a i<a.length∧(DR a i=2*i+1∨DR a i=2*i+2)∧∀c,0<c→c<a.length→(c-1)/2=i→sy (dH a (DR a i)) (dH a c):=by
 unfold DR;split
 ·rename_i hc;refine⟨by omega,.inr rfl,fun c c0 hl hp=>?_⟩;have:c=2*i+1∨c=2*i+1+1:=by omega
  rcases this with rfl|rfl
  ·exact uq hc.2
  ·exact yQ _
 ·rename_i hc;refine⟨by omega,.inl rfl,fun c c0 hl hp=>?_⟩;have:c=2*i+1∨c=2*i+1+1:=by omega
  rcases this with rfl|rfl
  ·exact yQ _
  ·unfold sy;cases hb:AF (dH a (2*i+1+1)) (dH a (2*i+1))with
   |false=>rfl
   |true=>exact absurd ⟨hl,hb⟩ hc
theorem Na:∀(f:Nat){a:List Nd}{i:Nat},a.length≤f+i→UK a i→Hp (down f a i)∧(down f a i).length=a.length∧∀x,x∈down f a i↔x∈a
 |0,a,i,hf,h=>⟨h.done fun c c0 hc hp=>by omega,rfl,fun x=>Iff.rfl⟩
 |f+1,a,i,hf,h=>by
  unfold down;split
  ·exact⟨h.done fun c c0 hc hp=>by omega,rfl,fun x=>Iff.rfl⟩
  ·rename_i hl;obtain⟨k1,k2,k3⟩:=R5 hl;split
   ·rename_i hb;obtain⟨h1,h2,h3⟩:=Na f (a:=swp a i (DR a i)) (i:=DR a i) (by rw[gR];omega) (h.step k1 k2 k3 hb);exact⟨h1,by rw[h2,gR],fun x=>by rw[h3,AG (by omega) k1]⟩
   ·rename_i hb;refine⟨h.done fun c c0 hc hp=>sA ?_ (k3 c c0 hc hp),rfl,fun x=>Iff.rfl⟩;unfold sy;exact Bool.not_eq_true _▸hb
theorem Fa(h:Hp a)(cR:0<a.length):Hp (rest a)∧(rest a).length=a.length-1∧(∀y∈rest a,y∈a)∧(∀y∈a,y=dH a 0∨y∈rest a)∧∀y∈a,(dH a 0).len≤y.len:=by
 have hl:(KP a).length=a.length-1:=by simp[KP]
 obtain⟨h1,h2,h3⟩:=Na (a.length+1) (a:=KP a) (i:=0) (by rw[hl];omega) (UK.start h cR);refine⟨h1,by unfold rest;rw[h2,hl],fun y hy=>?_,fun y hy=>?_,fun y hy=>?_⟩
 ·exact(M9 cR y).1 ((h3 y).1 hy)
 ·rcases(M9 cR y).2 hy with h|h
  ·exact .inl h
  ·exact .inr ((h3 y).2 h)
 ·obtain⟨j,hj,rfl⟩:=yR.1 hy;exact R3 (h.min j hj)
structure Ed where
 f:Nat
 t:Nat
 c:Nat
 deriving DecidableEq,Inhabited
def ew(E:List Ed)(i j c:Nat):Prop:=(⟨i,j,c⟩:Ed)∈E
abbrev Zf:=Option (Nat×Nat)
abbrev mh:=Nat→Zf
def ur(o:mh)(v:Nat)(l:Zf):mh:=fun u=>if u=v then l else o u
def sN(E:List Ed)(o:mh):Nat:=E.countP fun y=>(o y.f).isNone
def CY(n:Nat)(o:mh):Nat:=(List.range n).countP fun v=>(o v).isSome
def Fb(E:List Ed)(s v L:Nat):Prop:=(v=s∧L=0)∨jx (ew E) s v L
structure DI(E:List Ed)(n s B:Nat)(o:mh)(pu:Nat)(H:List Nd):Prop where
 hp:Hp H
 node:∀x∈H,x.n<n
 real:∀x∈H,Fb E s x.n x.len
 kx:∀v L e,v<n→o v=some (L,e)→Fb E s v L∧∀L',Fb E s v L'→L≤L'
 front:∀u L e v c,u<n→o u=some (L,e)→(⟨u,v,c⟩:Ed)∈E→o v=none→∃x∈H,x.n=v∧x.len≤L+c
 src:o s=none→∃x∈H,x.n=s∧x.len=0
 R6:∀x∈H,x.len≤B*CY n o∧x.e≤CY n o
 XU:∀v L e,v<n→o v=some (L,e)→L≤B*n∧e≤n
 cnt:pu+sN E o≤1+E.length
 XV:H.length≤pu
theorem Nb(n:Nat)(o:mh):CY n o≤n:=by unfold CY;have:=List.countP_le_length (p:=fun v=>(o v).isSome) (l:=List.range n);simpa using this
theorem zR{A:Type}[DecidableEq A]{p q:A→Bool}{v:A}:∀{l:List A},l.Nodup→v∈l→(∀u,u≠v→p u=q u)→p v=false→q v=true→l.countP q=l.countP p+1
 |a::l,hn,hv,hpq,h0,h1=>by
  rw[List.nodup_cons]at hn;rw[List.countP_cons,List.countP_cons];by_cases e:a=v
  ·subst e;have:l.countP q=l.countP p:=by apply List.countP_congr;intro u hu;rw[hpq u fun e=>by subst e;exact hn.1 hu]
   rw[this,h0,h1];simp
  ·have FX:v∈l:=by rcases List.mem_cons.1 hv with h|h;exact absurd h.symm e;exact h
   rw[zR hn.2 FX hpq h0 h1,hpq a e];omega
variable{o:mh}
theorem R7{n:Nat}{v:Nat}{l:Nat×Nat}(hv:v<n)(h:o v=none):CY n (ur o v (some l))=CY n o+1:=zR (p:=fun v=>(o v).isSome) (q:=fun u=>(ur o v (some l) u).isSome) (v:=v) List.nodup_range (List.mem_range.2 hv) (fun u hu=>by simp[ur,hu]) (by simp[h]) (by simp[ur])
theorem DI.least{E:List Ed}{n s B:Nat}{pu:Nat}{H:List Nd}(h:DI E n s B o pu H)(hE:∀y∈E,y.f<n∧y.t<n){v L:Nat}(hv:o v=none)(hw:Fb E s v L):∃x∈H,x.len≤L:=by
 cases hs:o s with
 |none=>obtain⟨x,h1,_,h2⟩:=h.src hs;exact⟨x,h1,by omega⟩
 |some l=>
  obtain⟨Ls,es⟩:=l;rcases hw with⟨rfl,_⟩|hw
  ·rw[hs]at hv;cases hv
  have key:∀{v L:Nat},jx (ew E) s v L→o v=none→∃x∈H,x.len≤L:=by
   intro v L hw;induction hw with
   | @Co j c hc=>intro hv;have pT:s<n:=(hE _ hc).1;obtain⟨x,h1,_,h2⟩:=h.front s Ls es j c pT hs hc hv;have:=(h.kx s Ls es pT hs).2 0 (.inl ⟨rfl,rfl⟩);exact⟨x,h1,by omega⟩
   | @snoc m j A c hA hc ih=>
    intro hv;cases hm:o m with
    |none=>obtain⟨x,h1,h2⟩:=ih hm;exact⟨x,h1,by omega⟩
    |some l=>obtain⟨Lm,em⟩:=l;have pT:m<n:=(hE _ hc).1;obtain⟨x,h1,_,h2⟩:=h.front m Lm em j c pT hm hc hv;have:=(h.kx m Lm em pT hm).2 A (.inr hA);exact⟨x,h1,by omega⟩
  exact key hw hv
theorem DI.skip{E:List Ed}{n s B:Nat}{pu:Nat}{H:List Nd}(h:DI E n s B o pu H)(cR:0<H.length)(q7:(o (dH H 0).n).isSome=true):DI E n s B o pu (rest H):=by
 obtain⟨r1,r2,r3,r4,r5⟩:=Fa h.hp cR;have other:∀x∈H,o x.n=none→x∈rest H:=fun x hx hn=>by
  rcases r4 x hx with e|e
  ·rw[e]at hn;rw[hn]at q7;cases q7
  ·exact e
 refine⟨r1,fun x hx=>h.node x (r3 x hx),fun x hx=>h.real x (r3 x hx),h.kx,fun u L e v c hu ho he hv=>?_,fun hs=>?_,fun x hx=>h.R6 x (r3 x hx),h.XU,h.cnt,by rw[r2];have:=h.XV;omega⟩
 ·obtain⟨x,x1,x2,x3⟩:=h.front u L e v c hu ho he hv;exact⟨x,other x x1 (by rw[x2];exact hv),x2,x3⟩
 ·obtain⟨x,x1,x2,x3⟩:=h.src hs;exact⟨x,other x x1 (by rw[x2];exact hs),x2,x3⟩
end Go.Ab.Nw
namespace Go.Ab.Nw
def lW(o:mh)(x:Nd):List Ed→Nat→List Nd→Nat×List Nd
 |[],pu,H=>(pu,H)
 |z::es,pu,H=>if(o z.t).isNone=true then lW o x es (pu+1) (push H ⟨z.t,x.len+z.c,x.e+1,pu⟩)else lW o x es pu H
theorem Cp{o:mh}{x:Nd}:∀{es:List Ed}{pu:Nat}{H:List Nd},Hp H→∃k,k≤es.length∧(lW o x es pu H).1=pu+k∧(lW o x es pu H).2.length=H.length+k∧Hp (lW o x es pu H).2∧(∀y∈(lW o x es pu H).2,y∈H∨∃z∈es,o z.t=none∧y.n=z.t∧y.len=x.len+z.c∧y.e=x.e+1)∧(∀y∈H,y∈(lW o x es pu H).2)∧∀z∈es,o z.t=none→∃y∈(lW o x es pu H).2,y.n=z.t∧y.len=x.len+z.c
 |[],pu,H,h=>⟨0,Nat.le_refl _,rfl,rfl,h,fun y hy=>.inl hy,fun y hy=>hy,fun z hz=>by cases hz⟩
 |z::es,pu,H,h=>by
  unfold lW;split
  ·rename_i hz;have hz:o z.t=none:=by simpa using hz
   obtain⟨p1,p2,p3⟩:=UL h ⟨z.t,x.len+z.c,x.e+1,pu⟩;obtain⟨k,k1,k2,k3,k4,k5,k6,k7⟩:=Cp (o:=o) (x:=x) (es:=es) (pu:=pu+1) p1;refine⟨k+1,by simp;omega,by rw[k2];omega,by rw[k3,p2];omega,k4,fun y hy=>?_,fun y hy=>k6 y ((p3 y).2 (.inl hy)),fun z' Qz hn=>?_⟩
   ·rcases k5 y hy with h1|⟨z',h1,h2⟩
    ·rcases(p3 y).1 h1 with h1|rfl
     ·exact .inl h1
     ·exact .inr ⟨z,by simp,hz,rfl,rfl,rfl⟩
    ·exact .inr ⟨z',by simp[h1],h2⟩
   ·rcases List.mem_cons.1 Qz with rfl|Qz
    ·exact⟨_,k6 _ ((p3 _).2 (.inr rfl)),rfl,rfl⟩
    ·exact k7 z' Qz hn
  ·rename_i hz;obtain⟨k,k1,k2,k3,k4,k5,k6,k7⟩:=Cp (o:=o) (x:=x) (es:=es) (pu:=pu) h;refine⟨k,by simp;omega,k2,k3,k4,fun y hy=>?_,k6,fun z' Qz hn=>?_⟩
   ·rcases k5 y hy with h1|⟨z',h1,h2⟩
    ·exact .inl h1
    ·exact .inr ⟨z',by simp[h1],h2⟩
   ·rcases List.mem_cons.1 Qz with rfl|Qz
    ·rw[hn]at hz;exact absurd rfl hz
    ·exact k7 z' Qz hn
theorem R8(E:List Ed)(o:mh)(v:Nat)(l:Nat×Nat)(h:o v=none):sN E o=sN E (ur o v (some l))+(E.filter fun y=>y.f==v).length:=by
 unfold sN;induction E with
 |nil=>rfl
 |cons y E ih=>
  rw[List.countP_cons,List.countP_cons,List.filter_cons,ih];by_cases e:y.f=v
  ·subst e;simp[ur,h];omega
  ·simp[ur,e];omega
variable{E:List Ed}
theorem DI.settle{n s B:Nat}{o:mh}{pu:Nat}{H:List Nd}(h:DI E n s B o pu H)(hE:∀y∈E,y.f<n∧y.t<n∧y.c≤B)(cR:0<H.length)(yw:o (dH H 0).n=none):DI E n s B (ur o (dH H 0).n (some ((dH H 0).len,(dH H 0).e))) (lW (ur o (dH H 0).n (some ((dH H 0).len,(dH H 0).e))) (dH H 0) (E.filter fun y=>y.f==(dH H 0).n) pu (rest H)).1 (lW (ur o (dH H 0).n (some ((dH H 0).len,(dH H 0).e))) (dH H 0) (E.filter fun y=>y.f==(dH H 0).n) pu (rest H)).2∧(lW (ur o (dH H 0).n (some ((dH H 0).len,(dH H 0).e))) (dH H 0) (E.filter fun y=>y.f==(dH H 0).n) pu (rest H)).2.length+sN E (ur o (dH H 0).n (some ((dH H 0).len,(dH H 0).e)))<H.length+sN E o:=by
 obtain⟨r1,r2,r3,r4,r5⟩:=Fa h.hp cR;obtain⟨x,hx⟩:∃x,x=dH H 0:=⟨_,rfl⟩;rw[←hx]at yw r4 r5⊢;have hxm:x∈H:=yR.2 ⟨0,cR,hx.symm⟩;have hxn:=h.node x hxm;obtain⟨o1,Y8⟩:∃o1,o1=ur o x.n (some (x.len,x.e)):=⟨_,rfl⟩;rw[←Y8];have oo:∀v,o1 v=if v=x.n then some (x.len,x.e)else o v:=fun v=>by rw[Y8];rfl
 have on:∀v,o1 v=none→v≠x.n∧o v=none:=fun v hv=>by
  rw[oo]at hv;split at hv
  ·cases hv
  ·exact⟨‹_›,hv⟩
 obtain⟨k,k1,k2,k3,k4,k5,k6,k7⟩:=Cp (o:=o1) (x:=x) (es:=E.filter fun y=>y.f==x.n) (pu:=pu) r1;have hs:CY n o1=CY n o+1:=by rw[Y8];exact R7 hxn yw
 have Ov:sN E o=sN E o1+(E.filter fun y=>y.f==x.n).length:=by rw[Y8];exact R8 E o x.n _ yw
 have mem:∀z,z∈(E.filter fun y=>y.f==x.n)↔z∈E∧z.f=x.n:=fun z=>by simp[List.mem_filter]
 have go:∀z,z∈E→z.f=x.n→jx (ew E) s z.t (x.len+z.c):=fun z hz hf=>by
  have he:ew E x.n z.t z.c:=by
   unfold ew;have:(⟨x.n,z.t,z.c⟩:Ed)=z:=by rw[←hf]
   rw[this];exact hz
  rcases h.real x hxm with⟨e1,e2⟩|hw
  ·rw[e2,Nat.zero_add];rw[e1]at he;exact .Co he
  ·exact .snoc hw he
 have other:∀y∈H,y.n≠x.n→y∈(lW o1 x (E.filter fun y=>y.f==x.n) pu (rest H)).2:=fun y hy hn=>by
  rcases r4 y hy with e|e
  ·exact absurd (by rw[e]) hn
  ·exact k6 y e
 refine⟨⟨k4,fun y hy=>?_,fun y hy=>?_,fun v L e hv ho=>?_,fun u L e v c hu ho he hv=>?_,fun hs'=>?_,fun y hy=>?_,fun v L e hv ho=>?_,?_,?_⟩,?_⟩
 ·rcases k5 y hy with h1|⟨z,z1,z2,z3,_⟩
  ·exact h.node y (r3 y h1)
  ·rw[z3];exact(hE z ((mem z).1 z1).1).2.1
 ·rcases k5 y hy with h1|⟨z,z1,z2,z3,z4,_⟩
  ·exact h.real y (r3 y h1)
  ·rw[z3,z4];exact .inr (go z ((mem z).1 z1).1 ((mem z).1 z1).2)
 ·rw[oo]at ho;split at ho
  ·rename_i e';simp only[Option.some.injEq,Prod.mk.injEq]at ho;obtain⟨rfl,rfl⟩:=ho;subst e';refine⟨h.real x hxm,fun L' hL=>?_⟩;obtain⟨y,y1,y2⟩:=h.least (fun y hy=>⟨(hE y hy).1,(hE y hy).2.1⟩) yw hL;exact Nat.le_trans (r5 y y1) y2
  ·exact h.kx v L e hv ho
 ·obtain⟨v1,v2⟩:=on v hv;rw[oo]at ho;split at ho
  ·rename_i e';simp only[Option.some.injEq,Prod.mk.injEq]at ho;obtain⟨rfl,rfl⟩:=ho;obtain⟨y,y1,y2,y3⟩:=k7 ⟨u,v,c⟩ ((mem _).2 ⟨he,e'⟩) hv;exact⟨y,y1,y2,by rw[y3];exact Nat.le_refl _⟩
  ·obtain⟨y,y1,y2,y3⟩:=h.front u L e v c hu ho he v2;exact⟨y,other y y1 (by rw[y2];exact v1),y2,y3⟩
 ·obtain⟨v1,v2⟩:=on s hs';obtain⟨y,y1,y2,y3⟩:=h.src v2;exact⟨y,other y y1 (by rw[y2];exact v1),y2,y3⟩
 ·rw[hs,Nat.mul_succ];rcases k5 y hy with h1|⟨z,z1,z2,z3,z4,z5⟩
  ·have:=h.R6 y (r3 y h1);omega
  ·have:=h.R6 x hxm;have:=(hE z ((mem z).1 z1).1).2.2;omega
 ·rw[oo]at ho;split at ho
  ·simp only[Option.some.injEq,Prod.mk.injEq]at ho;obtain⟨rfl,rfl⟩:=ho;have h1:=h.R6 x hxm;have h2:=Nb n o;have h3:B*CY n o≤B*n:=Nat.mul_le_mul_left _ h2;omega
  ·exact h.XU v L e hv ho
 ·have:=h.cnt;omega
 ·have:=h.XV;omega
 ·rw[k3,r2];omega
theorem DI.start{n s B:Nat}(hs:s<n):DI E n s B (fun _=>none) 1 [⟨s,0,0,0⟩]:=by
 refine⟨fun j j0 hj=>by simp at hj;omega,fun x hx=>?_,fun x hx=>?_,fun v L e _ h=>(by cases h),fun u L e v c _ h=>(by cases h),fun _=>⟨⟨s,0,0,0⟩,by simp,rfl,rfl⟩,fun x hx=>?_,fun v L e _ h=>(by cases h),?_,by simp⟩
 ·simp at hx;subst hx;exact hs
 ·simp at hx;subst hx;exact .inl ⟨rfl,rfl⟩
 ·simp at hx;subst hx;simp
 ·have:sN E (fun _=>none)=E.length:=by simp[sN]
  omega
theorem DI.done{n s B:Nat}{o:mh}{pu:Nat}(h:DI E n s B o pu [])(hE:∀y∈E,y.f<n∧y.t<n∧y.c≤B){v:Nat}(hv:v<n):match o v with
 |some (L,_)=>L≤B*n∧Fb E s v L∧∀L',Fb E s v L'→L≤L'
 |none=>∀L',¬Fb E s v L':=by
 cases ho:o v with
 |some l=>obtain⟨L,e⟩:=l;exact⟨(h.XU v L e hv ho).1,h.kx v L e hv ho⟩
 |none=>
  intro L' hL
  obtain⟨x,hx,_⟩:=h.least (fun y hy=>⟨(hE y hy).1,(hE y hy).2.1⟩) ho hL
  cases hx
end Go.Ab.Nw
namespace Go.Ab.Nw
set_option maxRecDepth 100000
set_option linter.unusedVariables false
set_option linter.unusedSimpArgs false
def Nd.pv(x:Nd):PV:=.agg [.int .i64 x.n,.int .i64 x.len,.int .i64 x.e,.int .i64 x.num]
abbrev lV(a:List Nd):List PV:=a.map Nd.pv
theorem nd0(x:Nd):cell x.pv 0=.int .i64 x.n:=rfl
theorem nd1(x:Nd):cell x.pv 1=.int .i64 x.len:=rfl
theorem nd2(x:Nd):cell x.pv 2=.int .i64 x.e:=rfl
theorem nd3(x:Nd):cell x.pv 3=.int .i64 x.num:=rfl
theorem ndE(x:Nd):PV.agg [cell x.pv 0,cell x.pv 1,cell x.pv 2,cell x.pv 3]=x.pv:=rfl
theorem eK{a:List Nd}{i:Nat}(h:i<a.length):(lV a)[i]?=some (dH a i).pv:=by rw[List.getElem?_map,E9 h];rfl
theorem aaG(a b c:PV):cell (.agg [a,b,c]) 0=a:=rfl
theorem XW(a b c:PV):cell (.agg [a,b,c]) 1=b:=rfl
theorem aaH(a b c:PV):cell (.agg [a,b,c]) 2=c:=rfl
theorem ag3(a b c:PV):asAgg 3 (.agg [a,b,c])=some ():=rfl
theorem UM(a b:Nd):ee [.agg [cell a.pv 0,cell a.pv 1,cell a.pv 2],.agg [cell b.pv 0,cell b.pv 1,cell b.pv 2]]=some (.bool (decide (a.len<b.len∨(a.len=b.len∧a.e<b.e)))):=by
 simp only[ee,qG,ag3,aaG,XW,aaH,nd0,nd1,nd2,if_true,U,asInt];by_cases h1:a.len<b.len
 ·simp[h1]
 ·by_cases h2:a.len=b.len
  ·simp[h2]
  ·have:((a.len:Int)==(b.len:Int))=false:=by rw[beq_eq_false_iff_ne];omega
   simp[h1,h2,this]
theorem rH(a:List Nd)(pu:Nat)(i k:Nat)(hi:i<a.length)(hk:k<a.length):aD [.rp [.fn 123 [],.rs 4 (lV a),.int .i64 pu],.int .i64 i,.int .i64 k]=some (.bool (AF (dH a i) (dH a k))):=by
 have e0:ab 4 (PV.rs 4 (lV a))=some (lV a):=by simp[ab]
 simp only[aD,ei,XW,aaH,e0,U,asInt,if_true,az,eK hi,eK hk,UM,asBool,nd3];generalize dH a i=x;generalize dH a k=y;unfold AF;by_cases h1:x.len<y.len∨(x.len=y.len∧x.e<y.e)
 ·have:(x.len<y.len∨(x.len=y.len∧(x.e<y.e∨(x.e=y.e∧x.num<y.num)))):=by omega
  simp[h1,this]
 ·by_cases h2:y.len<x.len∨(y.len=x.len∧y.e<x.e)
  ·have:¬(x.len<y.len∨(x.len=y.len∧(x.e<y.e∨(x.e=y.e∧x.num<y.num)))):=by omega
   simp[h1,h2,this]
  ·have:(x.len<y.len∨(x.len=y.len∧(x.e<y.e∨(x.e=y.e∧x.num<y.num))))↔x.num<y.num:=by omega
   simp[h1,h2,this]
theorem half(i:Nat)(h:0<i)(hi:i<4611686018427387904):IntKind.i64.wrap ((IntKind.i64.wrap ((i:Int)-1)).tdiv 2)=(((i-1)/2:Nat):Int):=by
 have e1:IntKind.i64.wrap ((i:Int)-1)=((i-1:Nat):Int):=by rw[fB (by omega) (by omega)];omega
 have e2:((i-1:Nat):Int).tdiv 2=(((i-1)/2:Nat):Int):=rfl;rw[e1,e2,fB (by omega) (by omega)]
theorem AH{i:Nat}{es:List PV}(h:i<es.length):ag (i:Int) es.length:=⟨by omega,by omega⟩
theorem Fc(a:List Nd)(i k:Nat):((lV a).set i (dH a k).pv).set k (dH a i).pv=lV (swp a i k):=by simp[swp,List.map_set]
theorem Nc(pn:Zg→Option PV)(t1:PV)(es:List PV)(ln ix:Int)(pu:Nat)(out:List PV)(x0 x1 x2:PV):∀(f N:Nat)(a:List Nd)(i:Nat),i<f→f≤N→i<a.length→a.length<4611686018427387904→cG (ky pn) N ((i:Int),t1,es,ln,ix,(pu:Int),out,x0,x1,x2,lV a,())=pn (t1,es,ln,IntKind.i64.wrap (ix+1),out,(pu:Int),x0,x1,x2,lV (up f a i),())
 |0,_,_,_,h,_,_,_=>by omega
 |f+1,0,_,_,_,h,_,_=>by omega
 |f+1,N+1,a,i,hf,hN,hi,ha=>by
  simp only[cG];unfold ky up;by_cases h0:0<i
  ·have hp:(i-1)/2<a.length:=by omega
   have hg:decide ((i:Int)>0)=true:=by simp;omega
   simp only[hg,cond_true,half i h0 (by omega),rH a pu i ((i-1)/2) hi hp,U,asBool];by_cases hb:AF (dH a i) (dH a ((i-1)/2))=true
   ·have hl1:i<(lV a).length:=by simpa using hi
    have hl2:(i-1)/2<(lV a).length:=by simpa using hp
    have hl3:(i-1)/2<((lV a).set i (dH a ((i-1)/2)).pv).length:=by simpa using hp
    have DS:((lV a).set i (dH a ((i-1)/2)).pv)[(i-1)/2]?=some (dH a ((i-1)/2)).pv:=by rw[List.getElem?_set];rw[if_neg (by omega),eK hp]
    simp only[hb,if_true,if_pos (AH hl1),if_pos (AH hl2),if_pos (AH hl3),Int.toNat_natCast,eK hi,eK hp,U,ndE,DS,Fc,h0,and_self];exact Nc pn t1 es ln ix pu out x0 x1 x2 f N (swp a i ((i-1)/2)) ((i-1)/2) (by omega) (by omega) (by rw[gR];exact hp) (by rw[gR];exact ha)
   ·simp only[hb,Bool.false_eq_true,if_false,and_false]
  ·have hg:decide ((i:Int)>0)=false:=by simp;omega
   simp only[hg,cond_false,U,Bool.false_eq_true,if_false,h0,false_and]
end Go.Ab.Nw
namespace Go.Ab.Nw
set_option maxRecDepth 100000
set_option linter.unusedVariables false
set_option linter.unusedSimpArgs false
def qd(v:Nat):Zf→PV
 |none=>.agg [.int .i64 v,.int .i64 (-1),.int .i64 (-1)]
 |some (L,e)=>.agg [.int .i64 v,.int .i64 (L:Int),.int .i64 (e:Int)]
def dO(n:Nat)(o:mh):List PV:=(List.range n).map fun v=>qd v (o v)
def Ed.pv(y:Ed):PV:=.agg [.int .i64 y.f,.int .i64 y.t,.int .i64 y.c]
theorem nW(n:Nat)(o:mh):(dO n o).length=n:=by simp[dO]
theorem nX{n v:Nat}(o:mh)(h:v<n):(dO n o)[v]?=some (qd v (o v)):=by simp[dO,h]
theorem O9{n v:Nat}(o:mh)(l:Nat×Nat)(h:v<n):(dO n o).set v (qd v (some l))=dO n (ur o v (some l)):=by
 apply List.ext_getElem?;intro i;rw[List.getElem?_set];by_cases e:v=i
 ·subst e;rw[if_pos rfl,if_pos (by rw[nW];exact h),nX _ h];simp[ur]
 ·rw[if_neg e];by_cases hi:i<n
  ·rw[nX _ hi,nX _ hi];simp[ur,Ne.symm e]
  ·rw[List.getElem?_eq_none (by rw[nW];omega),List.getElem?_eq_none (by rw[nW];omega)]
theorem aaI(v:Nat)(l:Zf):∃z:Int,asInt .i64 (cell (qd v l) 2)=some z∧(decide (z<0)=l.isNone)∧decide (z≥0)=l.isSome:=by
 cases l with
 |none=>exact⟨-1,rfl,rfl,rfl⟩
 |some p=>obtain⟨L,e⟩:=p;exact⟨e,rfl,by simp,by simp⟩
theorem ed1(y:Ed):cell y.pv 1=.int .i64 y.t:=rfl
theorem ed2(y:Ed):cell y.pv 2=.int .i64 y.c:=rfl
theorem CK(n:Int):asInt .i64 (.int .i64 n)=some n:=by simp[asInt]
theorem DT(dm:PV×List PV×Int×List PV×Unit→Option PV)(t1:PV)(n:Nat)(o:mh)(x:Nd)(es:List Ed)(ht:∀z∈es,z.t<n)(hn:n<4294967296)(hx:x.len<4611686018427387904)(hxe:x.e<4611686018427387904)(hc:∀z∈es,z.c<4611686018427387904)(CJ:es.length<4611686018427387904):∀(m N k pu:Nat)(H:List Nd),m+k=es.length→m<N→pu+m<4294967296→H.length+m<4294967296→cG (db cd dm) N (t1,es.map Ed.pv,((es.length:Nat):Int),(k:Int),dO n o,(pu:Int),.int .i64 x.n,.int .i64 x.len,.int .i64 x.e,lV H,())=dm (t1,dO n o,((lW o x (es.drop k) pu H).1:Int),lV (lW o x (es.drop k) pu H).2,())
 |_,0,_,_,_,_,h,_,_=>by omega
 |0,N+1,k,pu,H,hk,hN,hpu,hH=>by
  simp only[cG];unfold db;dsimp only;have hg:decide ((k:Int)<((es.length:Nat):Int))=false:=by simp;omega
  rw[hg,List.drop_eq_nil_of_le (by omega)];rfl
 |m+1,N+1,k,pu,H,hk,hN,hpu,hH=>by
  have ih:=DT dm t1 n o x es ht hn hx hxe hc CJ m N (k+1);simp only[cG];generalize cG (db cd dm) N=rec at ih⊢;unfold db;dsimp only;have kN:k<es.length:=by omega
  have hg:decide ((k:Int)<((es.length:Nat):Int))=true:=by simp;omega
  obtain⟨z,hz⟩:∃z,es[k]?=some z:=⟨_,List.getElem?_eq_getElem kN⟩;have hzm:z∈es:=List.mem_of_getElem? hz;have hzt:=ht z hzm;have CR:(es.map Ed.pv)[k]?=some z.pv:=by rw[List.getElem?_map,hz];rfl
  have aaJ:es.drop k=z::es.drop (k+1):=by rw[List.drop_eq_getElem_cons kN];have:=List.getElem?_eq_getElem kN;rw[hz]at this;rw[Option.some.inj this]
  obtain⟨w,w1,w2,w3⟩:=aaI z.t (o z.t);have pT:ag (z.t:Int) (dO n o).length:=AH (by rw[nW];exact hzt);rw[aaJ,lW];simp only[hg,if_true,az,CR,U,ed1,ed2,CK,if_pos pT,Int.toNat_natCast,nX o hzt,w1,w2];by_cases yw:(o z.t).isNone=true
  ·have e1:IntKind.i64.wrap ((x.len:Int)+(z.c:Int))=((x.len+z.c:Nat):Int):=by have:=hc z hzm;rw[fB (by omega) (by omega)];omega
   have e2:lV H++[PV.agg [.int .i64 z.t,.int .i64 ((x.len+z.c:Nat):Int),.int .i64 ((x.e+1:Nat):Int),.int .i64 pu]]=lV (H++[⟨z.t,x.len+z.c,x.e+1,pu⟩]):=by simp[lV,Nd.pv]
   have e3:(lV (H++[⟨z.t,x.len+z.c,x.e+1,pu⟩])).length=H.length+1:=by simp
   have e4:IntKind.i64.wrap (((H.length+1:Nat):Int)-1)=(H.length:Int):=by rw[fB (by omega) (by omega)];omega
   have ev:(H.length+1)*32≤aa∧0<32:=by unfold aa;omega
   simp only[yw,if_true,e1,an (show x.e<9223372036854775807 by omega),e2,e3,e4,if_pos ev,an (show pu<9223372036854775807 by omega),kT];refine(Nc rec t1 (es.map Ed.pv) ((es.length:Nat):Int) (k:Int) (pu+1) (dO n o) _ _ _ (H.length+1) rounds (H++[⟨z.t,x.len+z.c,x.e+1,pu⟩]) H.length (by omega) (by unfold rounds;omega) (by simp) (by simp;omega)).trans ?_;rw[an (by omega)];rw[show up (H.length+1) (H++[⟨z.t,x.len+z.c,x.e+1,pu⟩]) H.length=push H ⟨z.t,x.len+z.c,x.e+1,pu⟩from rfl];refine ih (pu+1) _ (by omega) (by omega) (by omega) ?_;have:(push H ⟨z.t,x.len+z.c,x.e+1,pu⟩).length=H.length+1:=by
    unfold push;have key:∀(f:Nat)(a:List Nd)(i:Nat),(up f a i).length=a.length:=by
     intro f;induction f with
     |zero=>intro a i;rfl
     |succ f ih=>
      intro a i;unfold up;split
      ·rw[ih,gR]
      ·rfl
    rw[key];simp
   omega
  ·simp only[yw,Bool.false_eq_true,if_false,an (show k<9223372036854775807 by omega)];exact ih pu H (by omega) (by omega) (by omega) (by omega)
end Go.Ab.Nw
namespace Go.Ab.Nw
set_option maxRecDepth 100000
set_option linter.unusedVariables false
set_option linter.unusedSimpArgs false
structure Gr(E:List Ed)(n:Nat)(ks vs:List PV):Prop where
 small:n<4294967296
 len:E.length<1073741824
 node:∀y∈E,y.f<n∧y.t<n∧y.c≤1073741824
 look:∀v:Nat,v<n→ab 3 (dN (.int .i64 v) (.rs 0 []) (ks.zip vs))=some ((E.filter fun y=>y.f==v).map Ed.pv)
section
variable {E:List Ed} {n:Nat} {ks vs:List PV}
def labelled(o:mh)(x:Nd):mh:=ur o x.n (some (x.len,x.e))
def KR(dm:PV×List PV×Int×List PV×Unit→Option PV)(E:List Ed)(n:Nat)(ks vs:List PV)(o:mh)(x:Nd)(pu:Nat)(H:List Nd):Option PV:=
 if(o x.n).isSome=true then dm (.rm 3 ks vs,dO n o,(pu:Int),lV H,())
 else dm (.rm 3 ks vs,dO n (labelled o x),((lW (labelled o x) x (E.filter fun y=>y.f==x.n) pu H).1:Int),lV (lW (labelled o x) x (E.filter fun y=>y.f==x.n) pu H).2,())
structure Sm(n:Nat)(E:List Ed)(x:Nd)(pu:Nat)(H:List Nd):Prop where
 node:x.n<n
 len:x.len<4611686018427387904
 e:x.e<4611686018427387904
 pu:pu≤1073741824
 H:H.length≤1073741824
theorem vd(hG:Gr E n ks vs)(dm:PV×List PV×Int×List PV×Unit→Option PV)(o:mh)(x:Nd)(pu:Nat)(H:List Nd)(hS:Sm n E x pu H)(A:Int→PV→Int→Option PV):((asInt .i64 (.int .i64 x.n)).bind fun n23=>if ag n23 (dO n o).length then(dO n o)[n23.toNat]?.bind fun e24=>(asInt .i64 (cell e24 2)).bind fun n25=>if decide (n25≥0)=true then dm (.rm 3 ks vs,dO n o,(pu:Int),lV H,())else(asInt .i64 (.int .i64 x.n)).bind fun n26=>if ag n26 (dO n o).length then(dO n o)[n26.toNat]?.bind fun Tu=>(asInt .i64 (.int .i64 x.n)).bind fun n28=>dS 3 (.rm 3 ks vs) (A n26 Tu n28) fun XX dE=>(ab 3 (dN (.int .i64 n28) (.rs 0 []) (XX.zip dE))).bind fun R9=>cd.run (db cd dm) (.rm 3 ks vs,R9,(R9.length:Int),0,(dO n o).set n26.toNat (.agg [.int .i64 x.n,.int .i64 x.len,.int .i64 x.e]),(pu:Int),.int .i64 x.n,.int .i64 x.len,.int .i64 x.e,lV H,())else none else none)=KR dm E n ks vs o x pu H:=by
 have pT:ag (x.n:Int) (dO n o).length:=AH (by rw[nW];exact hS.node)
 obtain⟨w,w1,w2,w3⟩:=aaI x.n (o x.n)
 simp only[CK,U,if_pos pT,Int.toNat_natCast,nX o hS.node,w1,w3,dS,if_true,hG.look x.n hS.node,kT]
 unfold KR
 by_cases hs:(o x.n).isSome=true
 ·simp only[hs,if_true]
 ·simp only[hs,Bool.false_eq_true,if_false];have e1:(dO n o).set x.n (.agg [.int .i64 x.n,.int .i64 x.len,.int .i64 x.e])=dO n (labelled o x):=O9 o (x.len,x.e) hS.node;rw[e1];have hl:(E.filter fun y=>y.f==x.n).length≤E.length:=List.length_filter_le ..;have bP:∀z∈E.filter (fun y=>y.f==x.n),z∈E:=fun z hz=>(List.mem_filter.1 hz).1;have h1:=hG.len;have h2:=hS.pu;have h3:=hS.H;have:=DT dm (.rm 3 ks vs) n (labelled o x) x (E.filter fun y=>y.f==x.n) (fun z hz=>(hG.node z (bP z hz)).2.1) hG.small hS.len hS.e (fun z hz=>by have:=(hG.node z (bP z hz)).2.2;omega) (by omega) (E.filter fun y=>y.f==x.n).length rounds 0 pu H (by omega) (by unfold rounds;omega) (by omega) (by omega);rw[List.drop_zero]at this;simpa using this
theorem Sa{a:List Nd}{i:Nat}(h:2*i+1+1<a.length∧AF (dH a (2*i+1+1)) (dH a (2*i+1))=true):DR a i=2*i+1+1:=if_pos h
theorem Pa{a:List Nd}{i:Nat}(h:¬(2*i+1+1<a.length∧AF (dH a (2*i+1+1)) (dH a (2*i+1))=true)):DR a i=2*i+1:=if_neg h
theorem DU(hG:Gr E n ks vs)(dm:PV×List PV×Int×List PV×Unit→Option PV)(o:mh)(x:Nd)(pu:Nat)(z1 z2 z3:Int):∀(f N:Nat)(a:List Nd)(i:Nat),a.length≤f+i→f<N→i<4294967296→Sm n E x pu a→cG (dY cd dm) N ((i:Int),.rm 3 ks vs,(pu:Int),z1,z2,z3,.int .i64 x.n,.int .i64 x.len,.int .i64 x.e,dO n o,lV a,())=KR dm E n ks vs o x pu (down f a i)
 |_,0,_,_,_,h,_,_=>by omega
 |0,N+1,a,i,hf,hN,hi,hS=>by
  simp only[cG];generalize cG (dY cd dm) N=rec;unfold dY down;dsimp only;have e1:IntKind.i64.wrap (IntKind.i64.wrap (2*(i:Int))+1)=((2*i+1:Nat):Int):=by rw[fB (x:=2*(i:Int)) (by omega) (by omega),fB (by omega) (by omega)];omega
  have hg:decide (((2*i+1:Nat):Int)≥((lV a).length:Int))=true:=by simp;omega
  rw[e1,if_pos hg];exact vd hG dm o x pu a hS _
 |f+1,N+1,a,i,hf,hN,hi,hS=>by
  have ih:=DU hG dm o x pu z1 z2 z3 f N;simp only[cG];generalize cG (dY cd dm) N=rec at ih⊢;have e1:IntKind.i64.wrap (IntKind.i64.wrap (2*(i:Int))+1)=((2*i+1:Nat):Int):=by rw[fB (x:=2*(i:Int)) (by omega) (by omega),fB (by omega) (by omega)];omega
  have e2:IntKind.i64.wrap (((2*i+1:Nat):Int)+1)=((2*i+1+1:Nat):Int):=an (by omega);unfold dY down;dsimp only;rw[e1,e2];by_cases hl:a.length≤2*i+1
  ·have hg:decide (((2*i+1:Nat):Int)≥((lV a).length:Int))=true:=by simp;omega
   rw[if_pos hg,if_pos hl];exact vd hG dm o x pu a hS _
  ·have hg:¬decide (((2*i+1:Nat):Int)≥((lV a).length:Int))=true:=by simp;omega
   rw[if_neg hg,if_neg hl];have hlen:=hS.H;have nd:i<a.length:=by omega
   have Xs:i<(lV a).length:=by simpa using nd
   obtain⟨k1,k2,_⟩:=R5 hl;have Og:DR a i<(lV a).length:=by simpa using k1
   have Zc:DR a i<((lV a).set i (dH a (DR a i)).pv).length:=by simpa using k1
   have DS:((lV a).set i (dH a (DR a i)).pv)[DR a i]?=some (dH a (DR a i)).pv:=by rw[List.getElem?_set,if_neg (by omega),eK k1]
   have fin:=ih (swp a i (DR a i)) (DR a i) (by rw[gR];omega) (by omega) (by omega) ⟨hS.node,hS.len,hS.e,hS.pu,by rw[gR];exact hS.H⟩;by_cases hc:2*i+1+1<a.length∧AF (dH a (2*i+1+1)) (dH a (2*i+1))=true
   ·have hk:=Sa hc;have hd:decide (((2*i+1+1:Nat):Int)<((lV a).length:Int))=true:=by simp;omega
    rw[hd];rw[hk]at Og Zc DS fin k1⊢;simp only[cond_true,rH a pu (2*i+1+1) (2*i+1) (by omega) (by omega),hc.2,U,asBool,if_true,rH a pu (2*i+1+1) i k1 nd];by_cases hb:AF (dH a (2*i+1+1)) (dH a i)=true
    ·rw[if_pos hb]at*;simp only[hb,Bool.not_true,Bool.false_eq_true,if_false,if_pos (AH Xs),if_pos (AH Og),if_pos (AH Zc),Int.toNat_natCast,eK nd,eK k1,U,ndE,DS,Fc];exact fin
    ·rw[if_neg hb];have fR:(!AF (dH a (2*i+1+1)) (dH a i))=true:=by simpa using hb
     rw[if_pos fR];exact vd hG dm o x pu a hS _
   ·have hk:=Pa hc;have hd:(bif decide (((2*i+1+1:Nat):Int)<((lV a).length:Int))then(aD [.rp [.fn 123 [],.rs 4 (lV a),.int .i64 (pu:Int)],.int .i64 ((2*i+1+1:Nat):Int),.int .i64 ((2*i+1:Nat):Int)]).bind fun r53=>(asBool r53).bind fun b54=>some b54 else some false)=some false:=by
     by_cases h2:2*i+1+1<a.length
     ·have hd:decide (((2*i+1+1:Nat):Int)<((lV a).length:Int))=true:=by simp;omega
      have hb:AF (dH a (2*i+1+1)) (dH a (2*i+1))=false:=by
       cases hb:AF (dH a (2*i+1+1)) (dH a (2*i+1))with
       |false=>rfl
       |true=>exact absurd ⟨h2,hb⟩ hc
      rw[hd,cond_true,rH a pu (2*i+1+1) (2*i+1) h2 (by omega),U,hb];rfl
     ·have hd:decide (((2*i+1+1:Nat):Int)<((lV a).length:Int))=false:=by simp;omega
      rw[hd];rfl
    rw[hd];rw[hk]at Og Zc DS fin k1⊢;simp only[U,asBool,Bool.false_eq_true,if_false,rH a pu (2*i+1) i k1 nd];by_cases hb:AF (dH a (2*i+1)) (dH a i)=true
    ·rw[if_pos hb]at*;simp only[hb,Bool.not_true,Bool.false_eq_true,if_false,if_pos (AH Xs),if_pos (AH Og),if_pos (AH Zc),Int.toNat_natCast,eK nd,eK k1,U,ndE,DS,Fc];exact fin
    ·rw[if_neg hb];have fR:(!AF (dH a (2*i+1)) (dH a i))=true:=by simpa using hb
     rw[if_pos fR];exact vd hG dm o x pu a hS _
end
end Go.Ab.Nw
namespace Go.Ab.Nw
set_option maxRecDepth 100000
set_option linter.unusedVariables false
set_option linter.unusedSimpArgs false
section
variable {E:List Ed} {n:Nat} {ks vs:List PV}
theorem Pb(hG:Gr E n ks vs)(dm:PV×List PV×Int×List PV×Unit→Option PV)(o:mh)(pu:Nat)(H:List Nd)(hS:∀x∈H,Sm n E x pu H):dZ cd (.rm 3 ks vs,dO n o,(pu:Int),lV H,()) dm=if H.length=0 then some (.rs 3 (dO n o))else KR dm E n ks vs o (dH H 0) pu (rest H):=by
 unfold dZ;dsimp only;by_cases h0:H.length=0
 ·have hg:(((lV H).length:Int)==0)=true:=by rw[List.length_map,h0];rfl
  rw[if_pos hg,if_pos h0]
 ·have hg:¬(((lV H).length:Int)==0)=true:=by simp;intro h;exact h0 (by rw[h];rfl)
  rw[if_neg hg,if_neg h0];have hx:dH H 0∈H:=yR.2 ⟨0,by omega,rfl⟩;have Xd:=hS _ hx;have hH:=Xd.H;have hl:((lV H).length:Int)=(H.length:Int):=by simp
  have e1:IntKind.i64.wrap ((H.length:Int)-1)=((H.length-1:Nat):Int):=by rw[fB (by omega) (by omega)];omega
  have i0:ag (0:Int) (lV H).length:=AH (i:=0) (by simp;omega);have hl1:H.length-1<(lV H).length:=by simp;omega
  have hl3:H.length-1<((lV H).set 0 (dH H (H.length-1)).pv).length:=by simp;omega
  have g0:(lV H)[0]?=some (dH H 0).pv:=eK (by omega);have gl:(lV H)[H.length-1]?=some (dH H (H.length-1)).pv:=eK (by omega);have g3:∃q,((lV H).set 0 (dH H (H.length-1)).pv)[H.length-1]?=some q:=⟨_,List.getElem?_eq_getElem hl3⟩;obtain⟨q,g3⟩:=g3;have z0:Int.toNat 0=0:=rfl;have iU:(0:Int)≤0∧0≤((H.length-1:Nat):Int)∧((H.length-1:Nat):Int)≤(((((lV H).set 0 (dH H (H.length-1)).pv).set (H.length-1) (dH H 0).pv).length:Nat):Int):=by refine⟨by omega,by omega,?_⟩;simp only[List.length_set,List.length_map];omega
  simp only[hl,e1,if_pos i0,z0,g0,U,if_pos (AH hl1),Int.toNat_natCast,gl,ndE,if_pos (AH hl3),g3,and_true,if_pos iU,Nat.sub_zero];simp only[nd0,nd1,nd2,Fc,←List.map_take,kT];rw[if_pos (by refine⟨by omega,by omega,?_⟩;simp only[List.length_map,gR];omega)];have:=DU hG dm o (dH H 0) pu 0 0 0 (H.length+1) rounds (KP H) 0 (by simp[KP];omega) (by unfold rounds;omega) (by omega) ⟨Xd.node,Xd.len,Xd.e,Xd.pu,by simp[KP];omega⟩;exact this
theorem DI.small{s B:Nat}{o:mh}{pu:Nat}{H:List Nd}(h:DI E n s B o pu H)(hG:Gr E n ks vs)(hB:B≤1073741824)(hn:n≤64):∀x∈H,Sm n E x pu H:=fun x hx=>by have h1:=h.R6 x hx;have h2:=Nb n o;have h3:B*CY n o≤1073741824*64:=Nat.mul_le_mul hB (by omega);have h4:=h.cnt;have h5:=h.XV;have h6:=hG.len;exact⟨h.node x hx,by omega,by omega,by omega,by omega⟩
theorem Pc(hG:Gr E n ks vs){s B:Nat}(hs:s<n)(hB:B≤1073741824)(hEB:∀y∈E,y.c≤B)(hn:n≤64):∃o pu,DI E n s B o pu []∧cd.run (dZ cd) (.rm 3 ks vs,dO n (fun _=>none),1,[PV.agg [.int .i64 s,.int .i64 0,.int .i64 0,.int .i64 0]],())=some (.rs 3 (dO n o)):=by
 have hE:∀y∈E,y.f<n∧y.t<n∧y.c≤B:=fun y hy=>⟨(hG.node y hy).1,(hG.node y hy).2.1,hEB y hy⟩;have hlen:=hG.len;obtain⟨a,r,hI,⟨h0,hr⟩,l6⟩:=O8 (body:=dZ cd) (A:=mh×Nat×List Nd) (fun a=>(PV.rm 3 ks vs,dO n a.1,(a.2.1:Int),lV a.2.2,())) (fun a=>DI E n s B a.1 a.2.1 a.2.2) (fun a=>a.2.2.length+sN E a.1) (fun a r=>a.2.2=[]∧r=some (.rs 3 (dO n a.1))) (fun a hI dm=>by
  obtain⟨o,pu,H⟩:=a;have hI:DI E n s B o pu H:=hI;dsimp only;rw[Pb hG dm o pu H (hI.small hG hB hn)];by_cases hH:H.length=0
  ·right;rw[if_pos hH];exact⟨_,⟨List.eq_nil_of_length_eq_zero hH,rfl⟩,rfl⟩
  ·left;rw[if_neg hH];have cR:0<H.length:=by omega
   unfold KR;by_cases q7:(o (dH H 0).n).isSome=true
   ·rw[if_pos q7];refine⟨(o,pu,rest H),hI.skip cR q7,?_,rfl⟩;have:=(Fa hI.hp cR).2.1;dsimp only;omega
   ·rw[if_neg q7];have yw:o (dH H 0).n=none:=by simpa using q7
    obtain⟨s1,s2⟩:=hI.settle hE cR yw;exact⟨(_,_,_),s1,s2,rfl⟩) rounds ((fun _=>none),1,[⟨s,0,0,0⟩]) (DI.start hs) (by
  have:sN E (fun _=>none)≤E.length:=List.countP_le_length;simp only[List.length_cons,List.length_nil];unfold rounds;omega)
 obtain⟨o,pu,H⟩:=a;dsimp only at h0 hr hI;subst h0;refine⟨o,pu,hI,?_⟩;rw[kT,←hr,←l6];rfl
theorem Pd(hG:Gr E n ks vs){s B:Nat}(hs:s<n)(hB:B≤1073741824)(hEB:∀y∈E,y.c≤B)(hn:n≤64):∃o pu,DI E n s B o pu []∧dt [.int .i64 n,.rm 3 ks vs,.int .i64 s]=some (.rs 3 (dO n o)):=by
 obtain⟨o,pu,hI,h⟩:=Pc hG hs hB hEB hn;refine⟨o,pu,hI,?_⟩;have ev:(0:Int)≤(n:Int)∧(n:Int)≤(n:Int)∧n*24≤aa∧0<24∧0<3:=by refine⟨by omega,by omega,?_,by omega,by omega⟩;unfold aa;omega
 simp only[dt,nq,CK,U,dS,if_true,if_pos ev,Int.toNat_natCast,List.length_replicate];have fill:∀k,k≤n→((List.range n).map fun v=>if v<k then qd v none else PV.agg [.int .i64 0,.int .i64 0,.int .i64 0]).length=n:=fun k _=>by simp
 refine bM (fun k=>(PV.rm 3 ks vs,(s:Int),(n:Int),(k:Int),(List.range n).map (fun v=>if v<k then qd v none else PV.agg [.int .i64 0,.int .i64 0,.int .i64 0]),())) n (fun k hk rec=>?_) (fun rec=>?_) (by unfold rounds;omega) ?_
 ·unfold gh;dsimp only;have hg:decide ((k:Int)<(n:Int))=true:=by simp;omega
  have pT:ag (k:Int) ((List.range n).map fun v=>if v<k then qd v none else PV.agg [.int .i64 0,.int .i64 0,.int .i64 0]).length:=AH (by rw[fill k (by omega)];exact hk);have eK:((List.range n).map fun v=>if v<k then qd v none else PV.agg [.int .i64 0,.int .i64 0,.int .i64 0])[k]?=some (PV.agg [.int .i64 0,.int .i64 0,.int .i64 0]):=by simp[hk]
  have q7:((List.range n).map fun v=>if v<k then qd v none else PV.agg [.int .i64 0,.int .i64 0,.int .i64 0]).set k (.agg [.int .i64 k,.int .i64 (-1),.int .i64 (-1)])=(List.range n).map fun v=>if v<k+1 then qd v none else PV.agg [.int .i64 0,.int .i64 0,.int .i64 0]:=by
   apply List.ext_getElem?;intro i;rw[List.getElem?_set];by_cases e:k=i
   ·subst e;simp[hk,qd]
   ·rw[if_neg e];by_cases hi:i<n
    ·simp only[List.getElem?_map,List.getElem?_range hi,Option.map_some];by_cases h1:i<k
     ·rw[if_pos h1,if_pos (by omega)]
     ·rw[if_neg h1,if_neg (by omega)]
    ·rw[List.getElem?_eq_none (by simp;omega),List.getElem?_eq_none (by simp;omega)]
  rw[if_pos hg,if_pos pT,Int.toNat_natCast,eK,U,q7,an (by omega)]
 ·unfold gh;dsimp only;have hg:¬decide ((n:Int)<(n:Int))=true:=by simp
  have e0:IntKind.i64.wrap ((1:Nat)-1:Int)=0:=by decide
  have e1:IntKind.i64.wrap (0+1)=1:=by decide
  have Jm:((List.range n).map fun v=>if v<n then qd v none else PV.agg [.int .i64 0,.int .i64 0,.int .i64 0])=dO n (fun _=>none):=by unfold dO;apply List.map_congr_left;intro v hv;rw[if_pos (List.mem_range.1 hv)]
  rw[if_neg hg,Jm,e1];refine Eq.trans ?_ h;have first:∀N,cG (gi cd) (N+1) (IntKind.i64.wrap (((1:Nat):Int)-1),PV.rm 3 ks vs,1,dO n (fun _=>none),[PV.agg [.int .i64 s,.int .i64 0,.int .i64 0,.int .i64 0]],())=cd.run (dZ cd) (.rm 3 ks vs,dO n (fun _=>none),1,[PV.agg [.int .i64 s,.int .i64 0,.int .i64 0,.int .i64 0]],()):=fun N=>by
   simp only[cG];generalize cG (gi cd) N=rec;unfold gi;dsimp only;have hg:decide (IntKind.i64.wrap (((1:Nat):Int)-1)>0)=false:=by decide
   rw[hg,cond_false,U,if_neg (by simp)]
  exact first 18446744073709551615
 ·congr 1;have:((List.range n).map fun v=>if v<0 then qd v none else PV.agg [.int .i64 0,.int .i64 0,.int .i64 0])=List.replicate n (PV.agg [.int .i64 0,.int .i64 0,.int .i64 0]):=by
   apply List.ext_getElem?;intro i;by_cases hi:i<n
   ·simp[hi,List.getElem?_replicate]
   ·rw[List.getElem?_eq_none (by simp;omega),List.getElem?_eq_none (by simp;omega)]
  rw[this];rfl
end
end Go.Ab.Nw
namespace Go.Ab.Nw
set_option maxRecDepth 100000
set_option linter.unusedVariables false
set_option linter.unusedSimpArgs false
theorem UN{S R:Type}{body:S→(S→Option R)→Option R}{s:S}{r:Option R}(h:∀rec,body s rec=r):cd.run body s=r:=bM (fun _=>s) 0 (fun k hk=>by omega) h (by unfold rounds;omega) rfl
def qe(n k:Nat)(F:Nat→PV)(z:PV):List PV:=(List.range n).map fun v=>if v<k then F v else z
theorem Ho(n k:Nat)(F:Nat→PV)(z:PV):(qe n k F z).length=n:=by simp[qe]
theorem Hq{n k:Nat}{F:Nat→PV}{z:PV}(hk:k<n):(qe n k F z)[k]?=some z:=by simp[qe,hk]
theorem Hr{n k:Nat}{F:Nat→PV}{z:PV}(hk:k<n):(qe n k F z).set k (F k)=qe n (k+1) F z:=by
 apply List.ext_getElem?;intro i;rw[List.getElem?_set];by_cases e:k=i
 ·subst e;simp[qe,hk]
 ·rw[if_neg e];unfold qe;by_cases hi:i<n
  ·simp only[List.getElem?_map,List.getElem?_range hi,Option.map_some];by_cases h1:i<k
   ·rw[if_pos h1,if_pos (by omega)]
   ·rw[if_neg h1,if_neg (by omega)]
  ·rw[List.getElem?_eq_none (by simp;omega),List.getElem?_eq_none (by simp;omega)]
theorem DV(n:Nat)(F:Nat→PV)(z:PV):qe n 0 F z=List.replicate n z:=by
 unfold qe;apply List.ext_getElem?;intro i;by_cases hi:i<n
 ·simp[hi,List.getElem?_replicate]
 ·rw[List.getElem?_eq_none (by simp;omega),List.getElem?_eq_none (by simp;omega)]
theorem Hs(n:Nat)(F:Nat→PV)(z:PV):qe n n F z=(List.range n).map F:=by unfold qe;apply List.map_congr_left;intro v hv;rw[if_pos (List.mem_range.1 hv)]
def Fe:Zf→Int
 |none=> -1
 |some (L,_)=>L
theorem aeB(v:Nat)(l:Zf):asInt .i64 (cell (qd v l) 1)=some (Fe l):=by
 cases l with
 |none=>rfl
 |some p=>obtain⟨L,e⟩:=p;rfl
theorem KQ(n:Nat)(hn:n≤64)(o:mh):dC [.rs 3 (dO n o)]=some (.rs 1 ((List.range n).map fun v=>.int .i64 (Fe (o v)))):=by
 have e0:ab 3 (.rs 3 (dO n o))=some (dO n o):=by simp[ab]
 have ev:(0:Int)≤((n:Nat):Int)∧((n:Nat):Int)≤((n:Nat):Int)∧n*8≤aa∧0<8∧0<1:=by refine⟨by omega,by omega,?_,by omega,by omega⟩;unfold aa;omega
 simp only[dC,ma,e0,U,nW,Int.toNat_natCast,if_pos ev];refine bM (fun k=>(dO n o,(n:Int),(k:Int),qe n k (fun v=>.int .i64 (Fe (o v))) (.int .i64 0),())) n (fun k hk rec=>?_) (fun rec=>?_) (by unfold rounds;omega) ?_
 ·unfold jy;dsimp only;have hg:decide ((k:Int)<(n:Int))=true:=by simp;omega
  rw[if_pos hg,az,nX o hk,U,aeB,U,if_pos (AH (by rw[Ho];exact hk)),Int.toNat_natCast,Hq hk,U,an (by omega)];rw[Hr (F:=fun v=>PV.int .i64 (Fe (o v))) hk]
 ·unfold jy;dsimp only;rw[if_neg (by simp),Hs]
 ·rw[DV];rfl
theorem Sb(i n:Nat)(h:i<n):cD [.int .i64 i,.rp [.int .i64 n]]=some (.bool false):=by
 have h1:decide ((i:Int)<0)=false:=by simp
 have h2:decide ((i:Int)≥(n:Int))=false:=by simp;omega
 simp only[cD,l9,CK,U,h1,cond_false,h2]
theorem ed0(y:Ed):cell y.pv 0=.int .i64 y.f:=rfl
theorem Sc(E:List Ed)(n:Nat)(hn:n≤64)(hE:E.length≤4096)(h:∀y∈E,y.f<n∧y.t<n∧y.c≤1073741824):eD [.int .i64 n,.rs 3 (E.map Ed.pv),.rs 0 []]=some (.int .i64 0):=by
 have e0:ab 3 (.rs 3 (E.map Ed.pv))=some (E.map Ed.pv):=by simp[ab]
 have e1:ab 1 (.rs 0 [])=some []:=by simp[ab]
 have h1:decide ((n:Int)<0)=false:=by simp
 have h2:decide ((n:Int)>64)=false:=by simp;omega
 have h3:¬decide (((E.map Ed.pv).length:Int)>4096)=true:=by simp;omega
 simp only[eD,oP,CK,e0,e1,U,h1,h2,cond_false,Bool.false_eq_true,if_false,if_neg h3];refine bM (fun k=>(([]:List PV),E.map Ed.pv,((E.map Ed.pv).length:Int),(k:Int),(n:Int),())) E.length (fun k hk rec=>?_) (fun rec=>?_) (by unfold rounds;omega) rfl
 ·unfold lG;dsimp only;have hg:decide ((k:Int)<((E.map Ed.pv).length:Int))=true:=by simp;omega
  obtain⟨z,hz⟩:∃z,E[k]?=some z:=⟨_,List.getElem?_eq_getElem hk⟩;have CR:(E.map Ed.pv)[k]?=some z.pv:=by rw[List.getElem?_map,hz];rfl
  obtain⟨a1,a2,a3⟩:=h z (List.mem_of_getElem? hz);have h4:decide ((z.c:Int)<0)=false:=by simp
  have h5:decide ((z.c:Int)>1073741824)=false:=by simp;omega
  simp only[hg,if_true,az,CR,U,ed0,ed1,ed2,CK,Sb _ _ a1,Sb _ _ a2,asBool,cond_false,Bool.false_eq_true,if_false,h4,h5,an (show k<9223372036854775807 by omega)]
 ·unfold lG;dsimp only;rw[if_neg (by simp)];refine UN fun rec=>?_;unfold qf;dsimp only;rw[if_neg (by simp)]
abbrev Ff:=List (Nat×List Ed)
def Fg(z:Ed):Ff→Ff
 |[]=>[(z.f,[z])]
 |(a,l)::r=>if z.f=a then(a,l++[z])::r else(a,l)::Fg z r
def mU(v:Nat):Ff→List Ed
 |[]=>[]
 |(a,l)::r=>if v=a then l else mU v r
def DW(m:Ff):List (PV×PV):=m.map fun x=>(.int .i64 x.1,.fQ 3 (x.2.map Ed.pv))
theorem Sd(a b:Nat):cC (PV.int .i64 a).cells (PV.int .i64 b).cells=decide (a=b):=by
 have:((a:Int)==(b:Int))=decide (a=b):=by
  by_cases h:a=b
  ·simp[h]
  ·rw[decide_eq_false h,beq_eq_false_iff_ne];omega
 simp only[PV.cells,cC,peq,Bool.and_true,this]
theorem aaK(v:Nat):∀m:Ff,F5 3 (.int .i64 v) (DW m)=some ((mU v m).map Ed.pv)
 |[]=>rfl
 |(a,l)::r=>by
  have ih:=aaK v r;unfold DW at ih⊢;simp only[List.map_cons,F5,mU,Sd];by_cases h:v=a
  ·simp[h,aY]
  ·simp only[h,decide_false,Bool.false_eq_true,if_false];exact ih
theorem Nf(z:Ed):∀m:Ff,eR (.int .i64 z.f) (.fQ 3 ((mU z.f m).map Ed.pv++[z.pv])) (pL (.int .i64 z.f) (DW m))=DW (Fg z m)
 |[]=>by simp[DW,pL,eR,Fg,mU]
 |(a,l)::r=>by
  have ih:=Nf z r;unfold DW at ih⊢;simp only[List.map_cons,pL,Fg,mU,Sd];by_cases h:z.f=a
  ·subst h;simp[eR,Sd]
  ·simp only[h,decide_false,Bool.false_eq_true,if_false,eR,Sd,List.map_cons];rw[ih]
theorem DX(v:Nat)(z:Ed):∀m:Ff,mU v (Fg z m)=mU v m++(if z.f=v then[z]else[])
 |[]=>by
  simp only[Fg,mU];by_cases h:v=z.f
  ·simp[h]
  ·rw[if_neg h,if_neg fun e=>h e.symm];rfl
 |(a,l)::r=>by
  simp only[Fg];by_cases h:z.f=a
  ·subst h;simp only[if_true,mU];by_cases hv:v=z.f
   ·simp[hv]
   ·rw[if_neg hv,if_neg hv,if_neg fun e=>hv e.symm];simp
  ·rw[if_neg h];simp only[mU];by_cases hv:v=a
   ·subst hv;rw[if_pos rfl,if_pos rfl,if_neg h];simp
   ·rw[if_neg hv,if_neg hv];exact DX v z r
def vk(E:List Ed):Ff:=E.foldl (fun m z=>Fg z m) []
theorem DY(E:List Ed)(z:Ed):vk (E++[z])=Fg z (vk E):=by simp[vk]
theorem DZ(v:Nat)(E:List Ed):mU v (vk E)=E.filter fun y=>y.f==v:=by
 rw[←List.reverse_reverse E];induction E.reverse with
 |nil=>rfl
 |cons z l ih=>
  rw[List.reverse_cons,DY,DX,ih,List.filter_append];by_cases h:z.f=v
  ·simp[h]
  ·simp[h]
theorem aaL(v:Nat):∀m:Ff,ab 3 (dN (.int .i64 v) (.rs 0 []) (((DW m).map fun x=>x.1).zip ((DW m).map fun x=>x.2.lZ)))=some ((mU v m).map Ed.pv)
 |[]=>by simp[DW,dN,ab,mU]
 |(a,l)::r=>by
  have ih:=aaL v r;unfold DW at ih⊢;simp only[List.map_cons,List.zip_cons_cons,dN,Sd,mU];by_cases h:v=a
  ·simp[h,PV.lZ,ab]
  ·simp only[h,decide_false,Bool.false_eq_true,if_false];exact ih
theorem Fh(E:List Ed)(hE:E.length≤4096):c9 [.rs 3 (E.map Ed.pv),.bool false]=some (.rm 3 ((DW (vk E)).map fun x=>x.1) ((DW (vk E)).map fun x=>x.2.lZ)):=by
 have e0:ab 3 (.rs 3 (E.map Ed.pv))=some (E.map Ed.pv):=by simp[ab]
 simp only[c9,kg,e0,U,asBool];refine bM (fun k=>(false,E.map Ed.pv,((E.map Ed.pv).length:Int),(k:Int),DW (vk (E.take k)),())) E.length (fun k hk rec=>?_) (fun rec=>?_) (by unfold rounds;omega) (by simp[vk,DW])
 ·unfold ir;dsimp only;have hg:decide ((k:Int)<((E.map Ed.pv).length:Int))=true:=by simp;omega
  obtain⟨z,hz⟩:∃z,E[k]?=some z:=⟨_,List.getElem?_eq_getElem hk⟩;have CR:(E.map Ed.pv)[k]?=some z.pv:=by rw[List.getElem?_map,hz];rfl
  have htk:E.take (k+1)=E.take k++[z]:=by rw[List.take_add_one,hz];rfl
  have Vw:PV.agg [cell z.pv 0,cell z.pv 1,cell z.pv 2]=z.pv:=rfl;have hlen:((mU z.f (vk (E.take k))).map Ed.pv++[z.pv]).length*24≤aa∧0<24:=by
   have:(mU z.f (vk (E.take k))).length≤E.length:=by rw[DZ];exact Nat.le_trans (List.length_filter_le ..) (by rw[List.length_take];omega)
   simp only[List.length_append,List.length_map,List.length_cons,List.length_nil];unfold aa;omega
  rw[if_pos hg,az,CR,U,if_neg (by simp)];have aeC:PV.agg [.int .i64 z.f,cell z.pv 1,cell z.pv 2]=z.pv:=rfl;simp only[ed0,CK,U,aaK,aeC,if_pos hlen];rw[Nf,htk,DY,an (by omega)]
 ·unfold ir;dsimp only;rw[if_neg (by simp),List.take_length]
theorem Se(E:List Ed)(n:Nat)(hn:n≤64)(hE:E.length≤4096)(h:∀y∈E,y.f<n∧y.t<n∧y.c≤1073741824):Gr E n ((DW (vk E)).map fun x=>x.1) ((DW (vk E)).map fun x=>x.2.lZ):=⟨by omega,by omega,h,fun v _=>by rw[aaL,DZ]⟩
end Go.Ab.Nw
