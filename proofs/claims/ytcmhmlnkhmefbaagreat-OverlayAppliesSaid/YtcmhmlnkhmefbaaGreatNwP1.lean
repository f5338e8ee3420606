import Derived.Test.YtcmhmlnkhmefbaaGreatAbLib
import Derived.Test.YtcmhmlnkhmefbaaGreatSh2
namespace Go.Ab.Nw
section
variable (w:Nat→Nat→Nat→Prop)
def AX:Nat→Nat→Nat→Nat→Prop
 |0,i,j,L=>w i j L
 |k+1,i,j,L=>AX k i j L∨∃A B,AX k i k A∧AX k k j B∧L=A+B
inductive jC:Nat→Nat→Nat→Prop
 |CR {i j c:Nat}:w i j c→jC i j c
 |snoc {i m j A c:Nat}:jC i m A→w m j c→jC i j (A+c)
end
section
variable {w:Nat→Nat→Nat→Prop}
variable{i j L:Nat}
theorem AX.up{k:Nat}(h:AX w k i j L):AX w (k+1) i j L:=.inl h
theorem AX.le{k k':Nat}(hk:k≤k')(h:AX w k i j L):AX w k' i j L:=by
 induction hk with
 |refl=>exact h
 |step _ ih=>exact ih.up
theorem xT:∀(k:Nat){m i j A B:Nat},m<k→AX w k i m A→AX w k m j B→∃C,C≤A+B∧AX w k i j C
 |0,_,_,_,_,_,h,_,_=>by omega
 |k+1,m,i,j,A,B,h,ha,hb=>by
  by_cases hm:m=k
  ·subst hm;have h1:∃A',A'≤A∧AX w m i m A':=by
    rcases ha with ha|⟨X,Y,x,y,e⟩
    ·exact⟨A,Nat.le_refl _,ha⟩
    ·exact⟨X,by omega,x⟩
   have h2:∃B',B'≤B∧AX w m m j B':=by
    rcases hb with hb|⟨X,Y,x,y,e⟩
    ·exact⟨B,Nat.le_refl _,hb⟩
    ·exact⟨Y,by omega,y⟩
   obtain⟨A',a1,a2⟩:=h1;obtain⟨B',b1,b2⟩:=h2;exact⟨A'+B',by omega,.inr ⟨A',B',a2,b2,rfl⟩⟩
  ·have bu:m<k:=by omega
   rcases ha with ha|⟨X,Y,x,y,e⟩
   ·rcases hb with hb|⟨X',Y',x',y',e'⟩
    ·obtain⟨C,c1,c2⟩:=xT k bu ha hb;exact⟨C,c1,.inl c2⟩
    ·obtain⟨C,c1,c2⟩:=xT k bu ha x';exact⟨C+Y',by omega,.inr ⟨C,Y',c2,y',rfl⟩⟩
   ·rcases hb with hb|⟨X',Y',x',y',e'⟩
    ·obtain⟨C,c1,c2⟩:=xT k bu y hb;exact⟨X+C,by omega,.inr ⟨X,C,x,c2,rfl⟩⟩
    ·exact⟨X+Y',by omega,.inr ⟨X,Y',x,y',rfl⟩⟩
theorem jC.join{m A B:Nat}(h1:jC w i m A)(h2:jC w m j B):jC w i j (A+B):=by
 induction h2 with
 |CR h=>exact .snoc h1 h
 |snoc _ h ih=>rw[←Nat.add_assoc];exact .snoc ih h
theorem AX.walk:∀{k i j L:Nat},AX w k i j L→jC w i j L
 |0,_,_,_,h=>.CR h
 |k+1,i,j,L,.inl h=>AX.walk (k:=k) h
 |k+1,i,j,L,.inr ⟨A,B,h1,h2,e⟩=>by rw[e];exact(AX.walk (k:=k) h1).join (AX.walk (k:=k) h2)
theorem jC.via{n:Nat}(hn:∀i j c,w i j c→i<n)(h:jC w i j L):∃C,C≤L∧AX w n i j C:=by
 induction h with
 |CR h=>exact⟨_,Nat.le_refl _,AX.le (Nat.zero_le _) (show AX w 0 _ _ _ from h)⟩
 |snoc _ h ih=>obtain⟨C,c1,c2⟩:=ih;obtain⟨D,d1,d2⟩:=xT n (hn _ _ _ h) c2 (AX.le (Nat.zero_le _) (show AX w 0 _ _ _ from h));exact⟨D,by omega,d2⟩
variable{w':Nat→Nat→Nat→Prop}
theorem jC.mono(hw:∀i j c,w i j c→w' i j c)(h:jC w i j L):jC w' i j L:=by
 induction h with
 |CR h=>exact .CR (hw _ _ _ h)
 |snoc _ h ih=>exact .snoc ih (hw _ _ _ h)
theorem jC.leq(hw:∀i j c,w i j c→∃c',c'≤c∧w' i j c')(h:jC w i j L):∃L',L'≤L∧jC w' i j L':=by
 induction h with
 |CR h=>obtain⟨c',h1,h2⟩:=hw _ _ _ h;exact⟨c',h1,.CR h2⟩
 |snoc _ h ih=>obtain⟨c',h1,h2⟩:=hw _ _ _ h;obtain⟨L',l1,l2⟩:=ih;exact⟨L'+c',by omega,.snoc l2 h2⟩
def Om(w:Nat→Nat→Nat→Prop)(i j:Nat)(o:Option Nat):Prop:=match o with
 |some L=>jC w i j L∧∀L',jC w i j L'→L≤L'
 |none=>∀L',¬jC w i j L'
theorem Om.unique{o o':Option Nat}(h:Om w i j o)(h':Om w i j o'):o=o':=by
 cases o with
 |none=>cases o' with
  |none=>rfl
  |some L=>exact absurd h'.1 (h L)
 |some L=>cases o' with
  |none=>exact absurd h.1 (h' L)
  |some L'=>rw[Nat.le_antisymm (h.2 _ h'.1) (h'.2 _ h.1)]
structure Fw(w:Nat→Nat→Nat→Prop)(inf:Nat)(n:Nat)(d:Nat→Nat→Nat):Prop where
 top:∀i j,i<n→j<n→d i j≤inf
 real:∀i j,i<n→j<n→d i j<inf→jC w i j (d i j)
def pP(w:Nat→Nat→Nat→Prop)(k i j:Nat)(x:Nat):Prop:=∀L,AX w k i j L→x≤L
variable{d:Nat→Nat→Nat}
theorem VT{inf n k:Nat}(h:Fw w inf n d)(hi:i<n)(hj:j<n)(hk:k<n){x:Nat}(hx:x=min (d i j) (d i k+d k j)){d':Nat→Nat→Nat}(hd:∀a b,d' a b=if a=i∧b=j then x else d a b):Fw w inf n d'∧(∀a b,d' a b≤d a b)∧(pP w k i k (d i k)→pP w k k j (d k j)→pP w k i j (d i j)→pP w (k+1) i j (d' i j)):=by
 refine⟨⟨fun a b ha hb=>?_,fun a b ha hb bu=>?_⟩,fun a b=>?_,fun h1 h2 h3 L hL=>?_⟩
 ·rw[hd];split
  ·have:=h.top i j hi hj;omega
  ·exact h.top a b ha hb
 ·rw[hd]at bu⊢;split
  ·rename_i e;rw[if_pos e]at bu;obtain⟨rfl,rfl⟩:=e;by_cases hm:d a b≤d a k+d k b
   ·rw[show x=d a b by omega]at bu⊢;exact h.real a b ha hb bu
   ·have e2:x=d a k+d k b:=by omega
    rw[e2]at bu⊢;exact(h.real a k ha hk (by omega)).join (h.real k b hk hb (by omega))
  ·rename_i e;rw[if_neg e]at bu;exact h.real a b ha hb bu
 ·rw[hd];split
  ·rename_i e;obtain⟨rfl,rfl⟩:=e;omega
  ·exact Nat.le_refl _
 ·rw[hd,if_pos ⟨rfl,rfl⟩];rcases hL with hL|⟨A,B,a1,a2,e⟩
  ·have:=h3 _ hL;omega
  ·have:=h1 _ a1;have:=h2 _ a2;omega
theorem VU{inf n:Nat}(hn:∀i j c,w i j c→i<n)(h:Fw w inf n d)(hi:i<n)(hj:j<n)(hb:pP w n i j (d i j))(nr:∀L,(∀L',jC w i j L'→L≤L')→jC w i j L→L<inf):Om w i j (if d i j<inf then some (d i j)else none):=by
 have low:∀L,jC w i j L→d i j≤L:=fun L hL=>by obtain⟨C,c1,c2⟩:=hL.via hn;exact Nat.le_trans (hb C c2) c1
 split
 ·rename_i bu;exact⟨h.real i j hi hj bu,low⟩
 ·rename_i Dr;intro L hL;have key:∀m,(∃L,L≤m∧jC w i j L)→∃L,jC w i j L∧∀L',jC w i j L'→L≤L':=by
   intro m;induction m with
   |zero=>rintro⟨L,hl,hw⟩;exact⟨L,hw,fun L' _=>by omega⟩
   |succ m ih=>
    rintro⟨L,hl,hw⟩;by_cases he:∃L,L≤m∧jC w i j L
    ·exact ih he
    ·refine⟨L,hw,fun L' hw'=>?_⟩;have:¬L'≤m:=fun hle=>he ⟨L',hle,hw'⟩;omega
  obtain⟨L0,h1,h2⟩:=key L ⟨L,Nat.le_refl _,hL⟩;have:=nr L0 h2 h1;have:=low L0 h1;omega
end
end Go.Ab.Nw
namespace Go.Ab.Nw
structure Nd where
 n:Nat
 len:Nat
 e:Nat
 num:Nat
 deriving DecidableEq,Inhabited
def A9(a b:Nd):Bool:=decide (a.len<b.len∨(a.len=b.len∧(a.e<b.e∨(a.e=b.e∧a.num<b.num))))
def sR(a b:Nd):Prop:=A9 b a=false
theorem On(a b:Nd):A9 a b=true↔(a.len<b.len∨(a.len=b.len∧(a.e<b.e∨(a.e=b.e∧a.num<b.num)))):=by simp[A9]
theorem xU(a b:Nd):sR a b↔¬(b.len<a.len∨(b.len=a.len∧(b.e<a.e∨(b.e=a.e∧b.num<a.num)))):=by unfold sR;rw[←On];simp
theorem zh(a:Nd):sR a a:=by rw[xU];omega
theorem sS{a b c:Nd}(h:sR a b)(k:sR b c):sR a c:=by rw[xU]at*;omega
theorem uP{a b:Nd}(h:A9 a b=true):sR a b:=by rw[xU];rw[On]at h;omega
theorem S9{a b:Nd}(h:sR a b):a.len≤b.len:=by rw[xU]at h;omega
def dC(a:List Nd)(i:Nat):Nd:=a.getD i default
variable{a:List Nd}{i:Nat}
theorem FU(h:i<a.length):a[i]?=some (dC a i):=by simp[dC,List.getD,h]
def swp(a:List Nd)(i k:Nat):List Nd:=(a.set i (dC a k)).set k (dC a i)
@[simp] theorem gS(a:List Nd)(i k:Nat):(swp a i k).length=a.length:=by simp[swp]
theorem Ta(a:List Nd)(i j:Nat)(x:Nd)(h:i<a.length):dC (a.set i x) j=if j=i then x else dC a j:=by
 unfold dC List.getD;rw[List.getElem?_set];by_cases e:i=j
 ·subst e;simp[h]
 ·rw[if_neg e,if_neg fun h=>e h.symm]
theorem lR(a:List Nd)(i k j:Nat)(hi:i<a.length)(hk:k<a.length):dC (swp a i k) j=if j=k then dC a i else if j=i then dC a k else dC a j:=by unfold swp;rw[Ta _ _ _ _ (by simpa using hk),Ta _ _ _ _ hi]
theorem zi{x:Nd}:x∈a↔∃i,i<a.length∧dC a i=x:=by
 rw[List.mem_iff_getElem?];constructor
 ·rintro⟨i,h⟩;have hi:=(List.getElem?_eq_some_iff.1 h).1;rw[FU hi]at h;exact⟨i,hi,by simpa using h⟩
 ·rintro⟨i,hi,h⟩;exact⟨i,by rw[FU hi,h]⟩
theorem Ba{k:Nat}(hi:i<a.length)(hk:k<a.length)(x:Nd):x∈swp a i k↔x∈a:=by
 rw[zi,zi];constructor
 ·rintro⟨j,hj,h⟩;rw[lR _ _ _ _ hi hk]at h;split at h
  ·exact⟨i,hi,h⟩
  ·split at h
   ·exact⟨k,hk,h⟩
   ·exact⟨j,by simpa using hj,h⟩
 ·rintro⟨j,hj,h⟩;by_cases e1:j=i
  ·subst e1;refine⟨k,by simpa using hk,?_⟩;rw[lR _ _ _ _ hi hk,if_pos rfl,h]
  ·by_cases e2:j=k
   ·subst e2;refine⟨i,by simpa using hi,?_⟩;rw[lR _ _ _ _ hi hk];split
    ·rename_i e;exact absurd e.symm e1
    ·rw[if_pos rfl,h]
   ·exact⟨j,by simpa using hj,by rw[lR _ _ _ _ hi hk,if_neg e2,if_neg e1,h]⟩
def Hp(a:List Nd):Prop:=∀j,0<j→j<a.length→sR (dC a ((j-1)/2)) (dC a j)
theorem Hp.min(h:Hp a):∀j,j<a.length→sR (dC a 0) (dC a j):=by
 intro j;induction j using Nat.strongRecOn with
 |ind j ih=>
  intro hj;by_cases h0:j=0
  ·subst h0;exact zh _
  ·exact sS (ih ((j-1)/2) (by omega) (by omega)) (h j (by omega) hj)
def VV(a:List Nd)(i:Nat):Prop:=(∀j,0<j→j<a.length→j≠i→sR (dC a ((j-1)/2)) (dC a j))∧∀c,0<c→c<a.length→(c-1)/2=i→0<i→sR (dC a ((i-1)/2)) (dC a c)
theorem VV.done(h:VV a i)(hi:i<a.length)(hs:i=0∨A9 (dC a i) (dC a ((i-1)/2))=false):Hp a:=by
 intro j h0 hj;by_cases e:j=i
 ·subst e;rcases hs with hs|hs
  ·omega
  ·exact hs
 ·exact h.1 j h0 hj e
theorem VV.step(h:VV a i)(h0:0<i)(hi:i<a.length)(hb:A9 (dC a i) (dC a ((i-1)/2))=true):VV (swp a i ((i-1)/2)) ((i-1)/2):=by
 have hp:(i-1)/2<a.length:=by omega
 have hpi:(i-1)/2<i:=by omega
 obtain⟨p,Dv⟩:∃p,p=(i-1)/2:=⟨_,rfl⟩;rw[←Dv]at hp hpi hb⊢;have hle:=uP hb;refine⟨fun j j0 hj cQ=>?_,fun c c0 hc UI Dh=>?_⟩
 ·rw[gS]at hj;rw[lR _ _ _ _ hi hp,lR _ _ _ _ hi hp,if_neg cQ];by_cases e1:j=i
  ·subst e1;rw[←Dv,if_pos rfl,if_pos rfl];exact hle
  ·rw[if_neg e1];by_cases e2:(j-1)/2=p
   ·rw[if_pos e2];have:=h.1 j j0 hj e1;rw[e2]at this;exact sS hle this
   ·rw[if_neg e2];by_cases e3:(j-1)/2=i
    ·rw[if_pos e3];have:=h.2 j j0 hj e3 h0;rw[←Dv]at this;exact this
    ·rw[if_neg e3];exact h.1 j j0 hj e1
 ·rw[gS]at hc;have hpp:(p-1)/2≠p∧(p-1)/2≠i:=by omega
  rw[lR _ _ _ _ hi hp,lR _ _ _ _ hi hp,if_neg hpp.1,if_neg hpp.2];have h1:=h.1 p Dh hp (by omega);by_cases e1:c=p
  ·omega
  ·rw[if_neg e1];by_cases e2:c=i
   ·rw[if_pos e2];exact h1
   ·rw[if_neg e2];have:=h.1 c c0 hc e2;rw[UI]at this;exact sS h1 this
theorem VV.start(h:Hp a)(x:Nd):VV (a++[x]) a.length:=by
 have Xj:∀j,j<a.length→dC (a++[x]) j=dC a j:=fun j hj=>by simp[dC,List.getD,List.getElem?_append_left hj]
 refine⟨fun j j0 hj cQ=>?_,fun c c0 hc UI h0=>?_⟩
 ·have:j<a.length:=by simp at hj;omega
  rw[Xj _ (by omega),Xj _ this];exact h j j0 this
 ·simp at hc;omega
def VW(a:List Nd)(i:Nat):Prop:=(∀j,0<j→j<a.length→(j-1)/2≠i→sR (dC a ((j-1)/2)) (dC a j))∧∀c,0<c→c<a.length→(c-1)/2=i→0<i→sR (dC a ((i-1)/2)) (dC a c)
theorem VW.done(h:VW a i)(hs:∀c,0<c→c<a.length→(c-1)/2=i→sR (dC a i) (dC a c)):Hp a:=by
 intro j h0 hj;by_cases e:(j-1)/2=i
 ·rw[e];exact hs j h0 hj e
 ·exact h.1 j h0 hj e
theorem VW.step{k:Nat}(h:VW a i)(hk:k<a.length)(Vm:k=2*i+1∨k=2*i+2)(Vf:∀c,0<c→c<a.length→(c-1)/2=i→sR (dC a k) (dC a c))(hb:A9 (dC a k) (dC a i)=true):VW (swp a i k) k:=by
 have hi:i<a.length:=by omega
 have hle:=uP hb;have hpk:(k-1)/2=i:=by omega
 refine⟨fun j j0 hj cQ=>?_,fun c c0 hc UI hk0=>?_⟩
 ·rw[gS]at hj;rw[lR _ _ _ _ hi hk,lR _ _ _ _ hi hk,if_neg cQ];by_cases e1:j=k
  ·subst e1;rw[hpk,if_pos rfl,if_pos rfl];exact hle
  ·rw[if_neg e1];by_cases e2:(j-1)/2=i
   ·rw[if_pos e2,if_neg (by omega)];exact Vf j j0 hj e2
   ·rw[if_neg e2];by_cases e3:j=i
    ·rw[if_pos e3];have:=h.2 k (by omega) hk hpk (by omega);rw[e3];exact this
    ·rw[if_neg e3];exact h.1 j j0 hj e2
 ·rw[gS]at hc;rw[lR _ _ _ _ hi hk,lR _ _ _ _ hi hk,hpk,if_neg (by omega),if_pos rfl,if_neg (by omega),if_neg (by omega)];have:=h.1 c c0 hc (by omega);rw[UI]at this;exact this
theorem VW.start(h:Hp a)(cQ:0<a.length):VW ((swp a 0 (a.length-1)).take (a.length-1)) 0:=by
 have hl:((swp a 0 (a.length-1)).take (a.length-1)).length=a.length-1:=by simp
 have Xj:∀j,0<j→j<a.length-1→dC ((swp a 0 (a.length-1)).take (a.length-1)) j=dC a j:=fun j j0 hj=>by
  have:dC ((swp a 0 (a.length-1)).take (a.length-1)) j=dC (swp a 0 (a.length-1)) j:=by simp[dC,List.getD,List.getElem?_take_of_lt hj]
  rw[this,lR _ _ _ _ (by omega) (by omega),if_neg (by omega),if_neg (by omega)]
 refine⟨fun j j0 hj cQ=>?_,fun c _ _ _ h0=>by omega⟩;rw[hl]at hj;rw[Xj j j0 hj,Xj _ (by omega) (by omega)];exact h j j0 (by omega)
theorem Oo(cQ:0<a.length)(y:Nd):(y∈(swp a 0 (a.length-1)).take (a.length-1)→y∈a)∧(y∈a→y=dC a 0∨y∈(swp a 0 (a.length-1)).take (a.length-1)):=by
 refine⟨fun h=>(Ba cQ (by omega) y).1 (List.mem_of_mem_take h),fun h=>?_⟩;have h:=(Ba (i:=0) (k:=a.length-1) cQ (by omega) y).2 h;rw[zi]at h;obtain⟨j,hj,e⟩:=h;rw[gS]at hj;by_cases hl:j=a.length-1
 ·left;rw[lR _ _ _ _ cQ (by omega),if_pos hl]at e;exact e.symm
 ·right;rw[List.mem_iff_getElem?];refine⟨j,?_⟩;rw[List.getElem?_take_of_lt (by omega),FU (by simpa using hj),e]
end Go.Ab.Nw
namespace Go.Ab.Nw
theorem P8{S R A:Type}{body:S→(S→Option R)→Option R}(st:A→S)(I:A→Prop)(m:A→Nat)(fin:A→Option R→Prop)(h:∀a,I a→∀rec,(∃a',I a'∧m a'<m a∧body (st a) rec=rec (st a'))∨(∃r,fin a r∧body (st a) rec=r)):∀N a,I a→m a<N→∃a' r,I a'∧fin a' r∧cj body N (st a)=r:=by
 intro N;induction N with
 |zero=>intro a _ h;omega
 |succ N ih=>
  intro a hI hm;simp only[cj];rcases h a hI (cj body N)with⟨a',h1,h2,h3⟩|⟨r,h1,h2⟩
  ·obtain⟨a2,r,i1,i2,i3⟩:=ih a' h1 (by omega);exact⟨a2,r,i1,i2,by rw[h3];exact i3⟩
  ·exact⟨a,r,hI,h1,h2⟩
def up:Nat→List Nd→Nat→List Nd
 |0,a,_=>a
 |f+1,a,i=>if 0<i∧A9 (dC a i) (dC a ((i-1)/2))=true then up f (swp a i ((i-1)/2)) ((i-1)/2)else a
def push(a:List Nd)(x:Nd):List Nd:=up (a.length+1) (a++[x]) a.length
def Ew(a:List Nd)(i:Nat):Nat:=if 2*i+1+1<a.length∧A9 (dC a (2*i+1+1)) (dC a (2*i+1))=true then 2*i+1+1 else 2*i+1
def down:Nat→List Nd→Nat→List Nd
 |0,a,_=>a
 |f+1,a,i=>if a.length≤2*i+1 then a else if A9 (dC a (Ew a i)) (dC a i)=true then down f (swp a i (Ew a i)) (Ew a i)else a
def LR(a:List Nd):List Nd:=(swp a 0 (a.length-1)).take (a.length-1)
def rest(a:List Nd):List Nd:=down (a.length+1) (LR a) 0
theorem Xn:∀(f:Nat){a:List Nd}{i:Nat},i<f→i<a.length→VV a i→Hp (up f a i)∧(up f a i).length=a.length∧∀x,x∈up f a i↔x∈a
 |0,_,_,h,_,_=>by omega
 |f+1,a,i,hf,hi,h=>by
  unfold up;split
  ·rename_i hc;have hp:(i-1)/2<a.length:=by omega
   obtain⟨h1,h2,h3⟩:=Xn f (a:=swp a i ((i-1)/2)) (i:=(i-1)/2) (by omega) (by rw[gS];exact hp) (h.step hc.1 hi hc.2);exact⟨h1,by rw[h2,gS],fun x=>by rw[h3,Ba hi hp]⟩
  ·rename_i hc;refine⟨h.done hi ?_,rfl,fun x=>Iff.rfl⟩;by_cases h0:i=0
   ·exact .inl h0
   ·right;cases hb:A9 (dC a i) (dC a ((i-1)/2))with
    |false=>rfl
    |true=>exact absurd ⟨by omega,hb⟩ hc
variable{a:List Nd}
theorem VX(h:Hp a)(x:Nd):Hp (push a x)∧(push a x).length=a.length+1∧∀y,y∈push a x↔y∈a∨y=x:=by obtain⟨h1,h2,h3⟩:=Xn (a.length+1) (a:=a++[x]) (i:=a.length) (by omega) (by simp) (VV.start h x);exact⟨h1,by unfold push;rw[h2];simp,fun y=>by unfold push;rw[h3];simp⟩
theorem Tb{i:Nat}(h:¬a.length≤2*i+1):Ew a i<a.length∧(Ew a i=2*i+1∨Ew a i=2*i+2)∧∀c,0<c→c<a.length→(c-1)/2=i→sR (dC a (Ew a i)) (dC a c):=by
 unfold Ew;split
 ·rename_i hc;refine⟨by omega,.inr rfl,fun c c0 hl hp=>?_⟩;have:c=2*i+1∨c=2*i+1+1:=by omega
  rcases this with rfl|rfl
  ·exact uP hc.2
  ·exact zh _
 ·rename_i hc;refine⟨by omega,.inl rfl,fun c c0 hl hp=>?_⟩;have:c=2*i+1∨c=2*i+1+1:=by omega
  rcases this with rfl|rfl
  ·exact zh _
  ·unfold sR;cases hb:A9 (dC a (2*i+1+1)) (dC a (2*i+1))with
   |false=>rfl
   |true=>exact absurd ⟨hl,hb⟩ hc
theorem Oq:∀(f:Nat){a:List Nd}{i:Nat},a.length≤f+i→VW a i→Hp (down f a i)∧(down f a i).length=a.length∧∀x,x∈down f a i↔x∈a
 |0,a,i,hf,h=>⟨h.done fun c c0 hc hp=>by omega,rfl,fun x=>Iff.rfl⟩
 |f+1,a,i,hf,h=>by
  unfold down;split
  ·exact⟨h.done fun c c0 hc hp=>by omega,rfl,fun x=>Iff.rfl⟩
  ·rename_i hl;obtain⟨k1,k2,k3⟩:=Tb hl;split
   ·rename_i hb;obtain⟨h1,h2,h3⟩:=Oq f (a:=swp a i (Ew a i)) (i:=Ew a i) (by rw[gS];omega) (h.step k1 k2 k3 hb);exact⟨h1,by rw[h2,gS],fun x=>by rw[h3,Ba (by omega) k1]⟩
   ·rename_i hb;refine⟨h.done fun c c0 hc hp=>sS ?_ (k3 c c0 hc hp),rfl,fun x=>Iff.rfl⟩;unfold sR;exact Bool.not_eq_true _▸hb
theorem FV(h:Hp a)(cQ:0<a.length):Hp (rest a)∧(rest a).length=a.length-1∧(∀y∈rest a,y∈a)∧(∀y∈a,y=dC a 0∨y∈rest a)∧∀y∈a,(dC a 0).len≤y.len:=by
 have hl:(LR a).length=a.length-1:=by simp[LR]
 obtain⟨h1,h2,h3⟩:=Oq (a.length+1) (a:=LR a) (i:=0) (by rw[hl];omega) (VW.start h cQ);refine⟨h1,by unfold rest;rw[h2,hl],fun y hy=>?_,fun y hy=>?_,fun y hy=>?_⟩
 ·exact(Oo cQ y).1 ((h3 y).1 hy)
 ·rcases(Oo cQ y).2 hy with h|h
  ·exact .inl h
  ·exact .inr ((h3 y).2 h)
 ·obtain⟨j,hj,rfl⟩:=zi.1 hy;exact S9 (h.min j hj)
structure Ed where
 f:Nat
 t:Nat
 c:Nat
 deriving DecidableEq,Inhabited
def ew(E:List Ed)(i j c:Nat):Prop:=(⟨i,j,c⟩:Ed)∈E
abbrev Lab:=Option (Nat×Nat)
abbrev mE:=Nat→Lab
def uQ(o:mE)(v:Nat)(l:Lab):mE:=fun u=>if u=v then l else o u
def te(E:List Ed)(o:mE):Nat:=E.countP fun y=>(o y.f).isNone
def DA(n:Nat)(o:mE):Nat:=(List.range n).countP fun v=>(o v).isSome
def FW(E:List Ed)(s v L:Nat):Prop:=(v=s∧L=0)∨jC (ew E) s v L
structure DI(E:List Ed)(n s B:Nat)(o:mE)(pu:Nat)(H:List Nd):Prop where
 hp:Hp H
 node:∀x∈H,x.n<n
 real:∀x∈H,FW E s x.n x.len
 kG:∀v L e,v<n→o v=some (L,e)→FW E s v L∧∀L',FW E s v L'→L≤L'
 front:∀u L e v c,u<n→o u=some (L,e)→(⟨u,v,c⟩:Ed)∈E→o v=none→∃x∈H,x.n=v∧x.len≤L+c
 src:o s=none→∃x∈H,x.n=s∧x.len=0
 Tc:∀x∈H,x.len≤B*DA n o∧x.e≤DA n o
 Zp:∀v L e,v<n→o v=some (L,e)→L≤B*n∧e≤n
 cnt:pu+te E o≤1+E.length
 Zq:H.length≤pu
theorem Ot(n:Nat)(o:mE):DA n o≤n:=by unfold DA;have:=List.countP_le_length (p:=fun v=>(o v).isSome) (l:=List.range n);simpa using this
theorem Ax{A:Type}[DecidableEq A]{p q:A→Bool}{v:A}:∀{l:List A},l.Nodup→v∈l→(∀u,u≠v→p u=q u)→p v=false→q v=true→l.countP q=l.countP p+1
 |a::l,hn,hv,hpq,h0,h1=>by
  rw[List.nodup_cons]at hn;rw[List.countP_cons,List.countP_cons];by_cases e:a=v
  ·subst e;have:l.countP q=l.countP p:=by apply List.countP_congr;intro u hu;rw[hpq u fun e=>by subst e;exact hn.1 hu]
   rw[this,h0,h1];simp
  ·have JH:v∈l:=by rcases List.mem_cons.1 hv with h|h;exact absurd h.symm e;exact h
   rw[Ax hn.2 JH hpq h0 h1,hpq a e];omega
variable{o:mE}
theorem Td{n:Nat}{v:Nat}{l:Nat×Nat}(hv:v<n)(h:o v=none):DA n (uQ o v (some l))=DA n o+1:=Ax (p:=fun v=>(o v).isSome) (q:=fun u=>(uQ o v (some l) u).isSome) (v:=v) List.nodup_range (List.mem_range.2 hv) (fun u hu=>by simp[uQ,hu]) (by simp[h]) (by simp[uQ])
theorem DI.least{E:List Ed}{n s B:Nat}{pu:Nat}{H:List Nd}(h:DI E n s B o pu H)(hE:∀y∈E,y.f<n∧y.t<n){v L:Nat}(hv:o v=none)(hw:FW E s v L):∃x∈H,x.len≤L:=by
 cases hs:o s with
 |none=>obtain⟨x,h1,_,h2⟩:=h.src hs;exact⟨x,h1,by omega⟩
 |some l=>
  obtain⟨Ls,es⟩:=l;rcases hw with⟨rfl,_⟩|hw
  ·rw[hs]at hv;cases hv
  have key:∀{v L:Nat},jC (ew E) s v L→o v=none→∃x∈H,x.len≤L:=by
   intro v L hw;induction hw with
   | @CR j c hc=>intro hv;have oV:s<n:=(hE _ hc).1;obtain⟨x,h1,_,h2⟩:=h.front s Ls es j c oV hs hc hv;have:=(h.kG s Ls es oV hs).2 0 (.inl ⟨rfl,rfl⟩);exact⟨x,h1,by omega⟩
   | @snoc m j A c hA hc ih=>
    intro hv;cases hm:o m with
    |none=>obtain⟨x,h1,h2⟩:=ih hm;exact⟨x,h1,by omega⟩
    |some l=>obtain⟨Lm,em⟩:=l;have oV:m<n:=(hE _ hc).1;obtain⟨x,h1,_,h2⟩:=h.front m Lm em j c oV hm hc hv;have:=(h.kG m Lm em oV hm).2 A (.inr hA);exact⟨x,h1,by omega⟩
  exact key hw hv
theorem DI.skip{E:List Ed}{n s B:Nat}{pu:Nat}{H:List Nd}(h:DI E n s B o pu H)(cQ:0<H.length)(rJ:(o (dC H 0).n).isSome=true):DI E n s B o pu (rest H):=by
 obtain⟨r1,r2,r3,r4,r5⟩:=FV h.hp cQ;have other:∀x∈H,o x.n=none→x∈rest H:=fun x hx hn=>by
  rcases r4 x hx with e|e
  ·rw[e]at hn;rw[hn]at rJ;cases rJ
  ·exact e
 refine⟨r1,fun x hx=>h.node x (r3 x hx),fun x hx=>h.real x (r3 x hx),h.kG,fun u L e v c hu ho he hv=>?_,fun hs=>?_,fun x hx=>h.Tc x (r3 x hx),h.Zp,h.cnt,by rw[r2];have:=h.Zq;omega⟩
 ·obtain⟨x,x1,x2,x3⟩:=h.front u L e v c hu ho he hv;exact⟨x,other x x1 (by rw[x2];exact hv),x2,x3⟩
 ·obtain⟨x,x1,x2,x3⟩:=h.src hs;exact⟨x,other x x1 (by rw[x2];exact hs),x2,x3⟩
end Go.Ab.Nw
namespace Go.Ab.Nw
def mh(o:mE)(x:Nd):List Ed→Nat→List Nd→Nat×List Nd
 |[],pu,H=>(pu,H)
 |z::es,pu,H=>if(o z.t).isNone=true then mh o x es (pu+1) (push H ⟨z.t,x.len+z.c,x.e+1,pu⟩)else mh o x es pu H
theorem CS{o:mE}{x:Nd}:∀{es:List Ed}{pu:Nat}{H:List Nd},Hp H→∃k,k≤es.length∧(mh o x es pu H).1=pu+k∧(mh o x es pu H).2.length=H.length+k∧Hp (mh o x es pu H).2∧(∀y∈(mh o x es pu H).2,y∈H∨∃z∈es,o z.t=none∧y.n=z.t∧y.len=x.len+z.c∧y.e=x.e+1)∧(∀y∈H,y∈(mh o x es pu H).2)∧∀z∈es,o z.t=none→∃y∈(mh o x es pu H).2,y.n=z.t∧y.len=x.len+z.c
 |[],pu,H,h=>⟨0,Nat.le_refl _,rfl,rfl,h,fun y hy=>.inl hy,fun y hy=>hy,fun z hz=>by cases hz⟩
 |z::es,pu,H,h=>by
  unfold mh;split
  ·rename_i hz;have hz:o z.t=none:=by simpa using hz
   obtain⟨p1,p2,p3⟩:=VX h ⟨z.t,x.len+z.c,x.e+1,pu⟩;obtain⟨k,k1,k2,k3,k4,k5,k6,k7⟩:=CS (o:=o) (x:=x) (es:=es) (pu:=pu+1) p1;refine⟨k+1,by simp;omega,by rw[k2];omega,by rw[k3,p2];omega,k4,fun y hy=>?_,fun y hy=>k6 y ((p3 y).2 (.inl hy)),fun z' Ry hn=>?_⟩
   ·rcases k5 y hy with h1|⟨z',h1,h2⟩
    ·rcases(p3 y).1 h1 with h1|rfl
     ·exact .inl h1
     ·exact .inr ⟨z,by simp,hz,rfl,rfl,rfl⟩
    ·exact .inr ⟨z',by simp[h1],h2⟩
   ·rcases List.mem_cons.1 Ry with rfl|Ry
    ·exact⟨_,k6 _ ((p3 _).2 (.inr rfl)),rfl,rfl⟩
    ·exact k7 z' Ry hn
  ·rename_i hz;obtain⟨k,k1,k2,k3,k4,k5,k6,k7⟩:=CS (o:=o) (x:=x) (es:=es) (pu:=pu) h;refine⟨k,by simp;omega,k2,k3,k4,fun y hy=>?_,k6,fun z' Ry hn=>?_⟩
   ·rcases k5 y hy with h1|⟨z',h1,h2⟩
    ·exact .inl h1
    ·exact .inr ⟨z',by simp[h1],h2⟩
   ·rcases List.mem_cons.1 Ry with rfl|Ry
    ·rw[hn]at hz;exact absurd rfl hz
    ·exact k7 z' Ry hn
theorem Te(E:List Ed)(o:mE)(v:Nat)(l:Nat×Nat)(h:o v=none):te E o=te E (uQ o v (some l))+(E.filter fun y=>y.f==v).length:=by
 unfold te;induction E with
 |nil=>rfl
 |cons y E ih=>
  rw[List.countP_cons,List.countP_cons,List.filter_cons,ih];by_cases e:y.f=v
  ·subst e;simp[uQ,h];omega
  ·simp[uQ,e];omega
variable{E:List Ed}
theorem DI.settle{n s B:Nat}{o:mE}{pu:Nat}{H:List Nd}(h:DI E n s B o pu H)(hE:∀y∈E,y.f<n∧y.t<n∧y.c≤B)(cQ:0<H.length)(yU:o (dC H 0).n=none):DI E n s B (uQ o (dC H 0).n (some ((dC H 0).len,(dC H 0).e))) (mh (uQ o (dC H 0).n (some ((dC H 0).len,(dC H 0).e))) (dC H 0) (E.filter fun y=>y.f==(dC H 0).n) pu (rest H)).1 (mh (uQ o (dC H 0).n (some ((dC H 0).len,(dC H 0).e))) (dC H 0) (E.filter fun y=>y.f==(dC H 0).n) pu (rest H)).2∧(mh (uQ o (dC H 0).n (some ((dC H 0).len,(dC H 0).e))) (dC H 0) (E.filter fun y=>y.f==(dC H 0).n) pu (rest H)).2.length+te E (uQ o (dC H 0).n (some ((dC H 0).len,(dC H 0).e)))<H.length+te E o:=by
 obtain⟨r1,r2,r3,r4,r5⟩:=FV h.hp cQ;obtain⟨x,hx⟩:∃x,x=dC H 0:=⟨_,rfl⟩;rw[←hx]at yU r4 r5⊢;have hxm:x∈H:=zi.2 ⟨0,cQ,hx.symm⟩;have hxn:=h.node x hxm;obtain⟨o1,ho1⟩:∃o1,o1=uQ o x.n (some (x.len,x.e)):=⟨_,rfl⟩;rw[←ho1];have oo:∀v,o1 v=if v=x.n then some (x.len,x.e)else o v:=fun v=>by rw[ho1];rfl
 have on:∀v,o1 v=none→v≠x.n∧o v=none:=fun v hv=>by
  rw[oo]at hv;split at hv
  ·cases hv
  ·exact⟨‹_›,hv⟩
 obtain⟨k,k1,k2,k3,k4,k5,k6,k7⟩:=CS (o:=o1) (x:=x) (es:=E.filter fun y=>y.f==x.n) (pu:=pu) r1;have hs:DA n o1=DA n o+1:=by rw[ho1];exact Td hxn yU
 have PB:te E o=te E o1+(E.filter fun y=>y.f==x.n).length:=by rw[ho1];exact Te E o x.n _ yU
 have mem:∀z,z∈(E.filter fun y=>y.f==x.n)↔z∈E∧z.f=x.n:=fun z=>by simp[List.mem_filter]
 have go:∀z,z∈E→z.f=x.n→jC (ew E) s z.t (x.len+z.c):=fun z hz hf=>by
  have he:ew E x.n z.t z.c:=by
   unfold ew;have:(⟨x.n,z.t,z.c⟩:Ed)=z:=by rw[←hf]
   rw[this];exact hz
  rcases h.real x hxm with⟨e1,e2⟩|hw
  ·rw[e2,Nat.zero_add];rw[e1]at he;exact .CR he
  ·exact .snoc hw he
 have other:∀y∈H,y.n≠x.n→y∈(mh o1 x (E.filter fun y=>y.f==x.n) pu (rest H)).2:=fun y hy hn=>by
  rcases r4 y hy with e|e
  ·exact absurd (by rw[e]) hn
  ·exact k6 y e
 refine⟨⟨k4,fun y hy=>?_,fun y hy=>?_,fun v L e hv ho=>?_,fun u L e v c hu ho he hv=>?_,fun hs'=>?_,fun y hy=>?_,fun v L e hv ho=>?_,?_,?_⟩,?_⟩
 ·rcases k5 y hy with h1|⟨z,z1,z2,z3,_⟩
  ·exact h.node y (r3 y h1)
  ·rw[z3];exact(hE z ((mem z).1 z1).1).2.1
 ·rcases k5 y hy with h1|⟨z,z1,z2,z3,z4,_⟩
  ·exact h.real y (r3 y h1)
  ·rw[z3,z4];exact .inr (go z ((mem z).1 z1).1 ((mem z).1 z1).2)
 ·rw[oo]at ho;split at ho
  ·rename_i e';simp only[Option.some.injEq,Prod.mk.injEq]at ho;obtain⟨rfl,rfl⟩:=ho;subst e';refine⟨h.real x hxm,fun L' hL=>?_⟩;obtain⟨y,y1,y2⟩:=h.least (fun y hy=>⟨(hE y hy).1,(hE y hy).2.1⟩) yU hL;exact Nat.le_trans (r5 y y1) y2
  ·exact h.kG v L e hv ho
 ·obtain⟨v1,v2⟩:=on v hv;rw[oo]at ho;split at ho
  ·rename_i e';simp only[Option.some.injEq,Prod.mk.injEq]at ho;obtain⟨rfl,rfl⟩:=ho;obtain⟨y,y1,y2,y3⟩:=k7 ⟨u,v,c⟩ ((mem _).2 ⟨he,e'⟩) hv;exact⟨y,y1,y2,by rw[y3];exact Nat.le_refl _⟩
  ·obtain⟨y,y1,y2,y3⟩:=h.front u L e v c hu ho he v2;exact⟨y,other y y1 (by rw[y2];exact v1),y2,y3⟩
 ·obtain⟨v1,v2⟩:=on s hs';obtain⟨y,y1,y2,y3⟩:=h.src v2;exact⟨y,other y y1 (by rw[y2];exact v1),y2,y3⟩
 ·rw[hs,Nat.mul_succ];rcases k5 y hy with h1|⟨z,z1,z2,z3,z4,z5⟩
  ·have:=h.Tc y (r3 y h1);omega
  ·have:=h.Tc x hxm;have:=(hE z ((mem z).1 z1).1).2.2;omega
 ·rw[oo]at ho;split at ho
  ·simp only[Option.some.injEq,Prod.mk.injEq]at ho;obtain⟨rfl,rfl⟩:=ho;have h1:=h.Tc x hxm;have h2:=Ot n o;have h3:B*DA n o≤B*n:=Nat.mul_le_mul_left _ h2;omega
  ·exact h.Zp v L e hv ho
 ·have:=h.cnt;omega
 ·have:=h.Zq;omega
 ·rw[k3,r2];omega
theorem DI.start{n s B:Nat}(hs:s<n):DI E n s B (fun _=>none) 1 [⟨s,0,0,0⟩]:=by
 refine⟨fun j j0 hj=>by simp at hj;omega,fun x hx=>?_,fun x hx=>?_,fun v L e _ h=>(by cases h),fun u L e v c _ h=>(by cases h),fun _=>⟨⟨s,0,0,0⟩,by simp,rfl,rfl⟩,fun x hx=>?_,fun v L e _ h=>(by cases h),?_,by simp⟩
 ·simp at hx;subst hx;exact hs
 ·simp at hx;subst hx;exact .inl ⟨rfl,rfl⟩
 ·simp at hx;subst hx;simp
 ·have:te E (fun _=>none)=E.length:=by simp[te]
  omega
theorem DI.done{n s B:Nat}{o:mE}{pu:Nat}(h:DI E n s B o pu [])(hE:∀y∈E,y.f<n∧y.t<n∧y.c≤B){v:Nat}(hv:v<n):match o v with
 |some (L,_)=>L≤B*n∧FW E s v L∧∀L',FW E s v L'→L≤L'
 |none=>∀L',¬FW E s v L':=by
 cases ho:o v with
 |some l=>obtain⟨L,e⟩:=l;exact⟨(h.Zp v L e hv ho).1,h.kG v L e hv ho⟩
 |none=>
  intro L' hL
  obtain⟨x,hx,_⟩:=h.least (fun y hy=>⟨(hE y hy).1,(hE y hy).2.1⟩) ho hL
  cases hx
end Go.Ab.Nw
namespace Go.Ab.Nw
set_option maxRecDepth 100000
set_option linter.unusedVariables false
set_option linter.unusedSimpArgs false
def Nd.pv(x:Nd):PV:=.agg [.int .i64 x.n,.int .i64 x.len,.int .i64 x.e,.int .i64 x.num]
abbrev mf(a:List Nd):List PV:=a.map Nd.pv
theorem nd0(x:Nd):cell x.pv 0=.int .i64 x.n:=rfl
theorem nd1(x:Nd):cell x.pv 1=.int .i64 x.len:=rfl
theorem nd2(x:Nd):cell x.pv 2=.int .i64 x.e:=rfl
theorem nd3(x:Nd):cell x.pv 3=.int .i64 x.num:=rfl
theorem ndE(x:Nd):PV.agg [cell x.pv 0,cell x.pv 1,cell x.pv 2,cell x.pv 3]=x.pv:=rfl
theorem eH{a:List Nd}{i:Nat}(h:i<a.length):(mf a)[i]?=some (dC a i).pv:=by rw[List.getElem?_map,FU h];rfl
theorem aa8(a b c:PV):cell (.agg [a,b,c]) 0=a:=rfl
theorem Zr(a b c:PV):cell (.agg [a,b,c]) 1=b:=rfl
theorem aa9(a b c:PV):cell (.agg [a,b,c]) 2=c:=rfl
theorem ag3(a b c:PV):asAgg 3 (.agg [a,b,c])=some ():=rfl
theorem VY(a b:Nd):ec [.agg [cell a.pv 0,cell a.pv 1,cell a.pv 2],.agg [cell b.pv 0,cell b.pv 1,cell b.pv 2]]=some (.bool (decide (a.len<b.len∨(a.len=b.len∧a.e<b.e)))):=by
 simp only[ec,qY,ag3,aa8,Zr,aa9,nd0,nd1,nd2,if_true,U,asInt];by_cases h1:a.len<b.len
 ·simp[h1]
 ·by_cases h2:a.len=b.len
  ·simp[h2]
  ·have:((a.len:Int)==(b.len:Int))=false:=by rw[beq_eq_false_iff_ne];omega
   simp[h1,h2,this]
theorem rU(a:List Nd)(pu:Nat)(i k:Nat)(hi:i<a.length)(hk:k<a.length):aC [.rp [.fn 123 [],.rs 4 (mf a),.int .i64 pu],.int .i64 i,.int .i64 k]=some (.bool (A9 (dC a i) (dC a k))):=by
 have e0:ab 4 (PV.rs 4 (mf a))=some (mf a):=by simp[ab]
 simp only[aC,eh,Zr,aa9,e0,U,asInt,if_true,aq,eH hi,eH hk,VY,asBool,nd3];generalize dC a i=x;generalize dC a k=y;unfold A9;by_cases h1:x.len<y.len∨(x.len=y.len∧x.e<y.e)
 ·have:(x.len<y.len∨(x.len=y.len∧(x.e<y.e∨(x.e=y.e∧x.num<y.num)))):=by omega
  simp[h1,this]
 ·by_cases h2:y.len<x.len∨(y.len=x.len∧y.e<x.e)
  ·have:¬(x.len<y.len∨(x.len=y.len∧(x.e<y.e∨(x.e=y.e∧x.num<y.num)))):=by omega
   simp[h1,h2,this]
  ·have:(x.len<y.len∨(x.len=y.len∧(x.e<y.e∨(x.e=y.e∧x.num<y.num))))↔x.num<y.num:=by omega
   simp[h1,h2,this]
theorem half(i:Nat)(h:0<i)(hi:i<4611686018427387904):IntKind.i64.wrap ((IntKind.i64.wrap ((i:Int)-1)).tdiv 2)=(((i-1)/2:Nat):Int):=by
 have e1:IntKind.i64.wrap ((i:Int)-1)=((i-1:Nat):Int):=by rw[fF (by omega) (by omega)];omega
 have e2:((i-1:Nat):Int).tdiv 2=(((i-1)/2:Nat):Int):=rfl;rw[e1,e2,fF (by omega) (by omega)]
theorem Bb{i:Nat}{es:List PV}(h:i<es.length):ae (i:Int) es.length:=⟨by omega,by omega⟩
theorem FX(a:List Nd)(i k:Nat):((mf a).set i (dC a k).pv).set k (dC a i).pv=mf (swp a i k):=by simp[swp,List.map_set]
theorem Ou(nh:TY2→Option PV)(t1:PV)(es:List PV)(ln ix:Int)(pu:Nat)(out:List PV)(x0 x1 x2:PV):∀(f N:Nat)(a:List Nd)(i:Nat),i<f→f≤N→i<a.length→a.length<4611686018427387904→cj (kH nh) N ((i:Int),t1,es,ln,ix,(pu:Int),out,x0,x1,x2,mf a,())=nh (t1,es,ln,IntKind.i64.wrap (ix+1),out,(pu:Int),x0,x1,x2,mf (up f a i),())
 |0,_,_,_,h,_,_,_=>by omega
 |f+1,0,_,_,_,h,_,_=>by omega
 |f+1,N+1,a,i,hf,hN,hi,ha=>by
  simp only[cj];unfold kH up;by_cases h0:0<i
  ·have hp:(i-1)/2<a.length:=by omega
   have hg:decide ((i:Int)>0)=true:=by simp;omega
   simp only[hg,cond_true,half i h0 (by omega),rU a pu i ((i-1)/2) hi hp,U,asBool];by_cases hb:A9 (dC a i) (dC a ((i-1)/2))=true
   ·have hl1:i<(mf a).length:=by simpa using hi
    have hl2:(i-1)/2<(mf a).length:=by simpa using hp
    have hl3:(i-1)/2<((mf a).set i (dC a ((i-1)/2)).pv).length:=by simpa using hp
    have Ey:((mf a).set i (dC a ((i-1)/2)).pv)[(i-1)/2]?=some (dC a ((i-1)/2)).pv:=by rw[List.getElem?_set];rw[if_neg (by omega),eH hp]
    simp only[hb,if_true,if_pos (Bb hl1),if_pos (Bb hl2),if_pos (Bb hl3),Int.toNat_natCast,eH hi,eH hp,U,ndE,Ey,FX,h0,and_self];exact Ou nh t1 es ln ix pu out x0 x1 x2 f N (swp a i ((i-1)/2)) ((i-1)/2) (by omega) (by omega) (by rw[gS];exact hp) (by rw[gS];exact ha)
   ·simp only[hb,Bool.false_eq_true,if_false,and_false]
  ·have hg:decide ((i:Int)>0)=false:=by simp;omega
   simp only[hg,cond_false,U,Bool.false_eq_true,if_false,h0,false_and]
end Go.Ab.Nw
namespace Go.Ab.Nw
set_option maxRecDepth 100000
set_option linter.unusedVariables false
set_option linter.unusedSimpArgs false
def qA(v:Nat):Lab→PV
 |none=>.agg [.int .i64 v,.int .i64 (-1),.int .i64 (-1)]
 |some (L,e)=>.agg [.int .i64 v,.int .i64 (L:Int),.int .i64 (e:Int)]
def dI(n:Nat)(o:mE):List PV:=(List.range n).map fun v=>qA v (o v)
def Ed.pv(y:Ed):PV:=.agg [.int .i64 y.f,.int .i64 y.t,.int .i64 y.c]
theorem oi(n:Nat)(o:mE):(dI n o).length=n:=by simp[dI]
theorem oq{n v:Nat}(o:mE)(h:v<n):(dI n o)[v]?=some (qA v (o v)):=by simp[dI,h]
theorem P9{n v:Nat}(o:mE)(l:Nat×Nat)(h:v<n):(dI n o).set v (qA v (some l))=dI n (uQ o v (some l)):=by
 apply List.ext_getElem?;intro i;rw[List.getElem?_set];by_cases e:v=i
 ·subst e;rw[if_pos rfl,if_pos (by rw[oi];exact h),oq _ h];simp[uQ]
 ·rw[if_neg e];by_cases hi:i<n
  ·rw[oq _ hi,oq _ hi];simp[uQ,Ne.symm e]
  ·rw[List.getElem?_eq_none (by rw[oi];omega),List.getElem?_eq_none (by rw[oi];omega)]
theorem aba(v:Nat)(l:Lab):∃z:Int,asInt .i64 (cell (qA v l) 2)=some z∧(decide (z<0)=l.isNone)∧decide (z≥0)=l.isSome:=by
 cases l with
 |none=>exact⟨-1,rfl,rfl,rfl⟩
 |some p=>obtain⟨L,e⟩:=p;exact⟨e,rfl,by simp,by simp⟩
theorem ed1(y:Ed):cell y.pv 1=.int .i64 y.t:=rfl
theorem ed2(y:Ed):cell y.pv 2=.int .i64 y.c:=rfl
theorem Dj(n:Int):asInt .i64 (.int .i64 n)=some n:=by simp[asInt]
theorem Ez(dd:PV×List PV×Int×List PV×Unit→Option PV)(t1:PV)(n:Nat)(o:mE)(x:Nd)(es:List Ed)(ht:∀z∈es,z.t<n)(hn:n<4294967296)(hx:x.len<4611686018427387904)(hxe:x.e<4611686018427387904)(hc:∀z∈es,z.c<4611686018427387904)(Di:es.length<4611686018427387904):∀(m N k pu:Nat)(H:List Nd),m+k=es.length→m<N→pu+m<4294967296→H.length+m<4294967296→cj (c9 bK dd) N (t1,es.map Ed.pv,((es.length:Nat):Int),(k:Int),dI n o,(pu:Int),.int .i64 x.n,.int .i64 x.len,.int .i64 x.e,mf H,())=dd (t1,dI n o,((mh o x (es.drop k) pu H).1:Int),mf (mh o x (es.drop k) pu H).2,())
 |_,0,_,_,_,_,h,_,_=>by omega
 |0,N+1,k,pu,H,hk,hN,hpu,hH=>by
  simp only[cj];unfold c9;dsimp only;have hg:decide ((k:Int)<((es.length:Nat):Int))=false:=by simp;omega
  rw[hg,List.drop_eq_nil_of_le (by omega)];rfl
 |m+1,N+1,k,pu,H,hk,hN,hpu,hH=>by
  have ih:=Ez dd t1 n o x es ht hn hx hxe hc Di m N (k+1);simp only[cj];generalize cj (c9 bK dd) N=rec at ih⊢;unfold c9;dsimp only;have jA:k<es.length:=by omega
  have hg:decide ((k:Int)<((es.length:Nat):Int))=true:=by simp;omega
  obtain⟨z,hz⟩:∃z,es[k]?=some z:=⟨_,List.getElem?_eq_getElem jA⟩;have hzm:z∈es:=List.mem_of_getElem? hz;have hzt:=ht z hzm;have Dr:(es.map Ed.pv)[k]?=some z.pv:=by rw[List.getElem?_map,hz];rfl
  have Tf:es.drop k=z::es.drop (k+1):=by rw[List.drop_eq_getElem_cons jA];have:=List.getElem?_eq_getElem jA;rw[hz]at this;rw[Option.some.inj this]
  obtain⟨w,w1,w2,w3⟩:=aba z.t (o z.t);have oV:ae (z.t:Int) (dI n o).length:=Bb (by rw[oi];exact hzt);rw[Tf,mh];simp only[hg,if_true,aq,Dr,U,ed1,ed2,Dj,if_pos oV,Int.toNat_natCast,oq o hzt,w1,w2];by_cases yU:(o z.t).isNone=true
  ·have e1:IntKind.i64.wrap ((x.len:Int)+(z.c:Int))=((x.len+z.c:Nat):Int):=by have:=hc z hzm;rw[fF (by omega) (by omega)];omega
   have e2:mf H++[PV.agg [.int .i64 z.t,.int .i64 ((x.len+z.c:Nat):Int),.int .i64 ((x.e+1:Nat):Int),.int .i64 pu]]=mf (H++[⟨z.t,x.len+z.c,x.e+1,pu⟩]):=by simp[mf,Nd.pv]
   have e3:(mf (H++[⟨z.t,x.len+z.c,x.e+1,pu⟩])).length=H.length+1:=by simp
   have e4:IntKind.i64.wrap (((H.length+1:Nat):Int)-1)=(H.length:Int):=by rw[fF (by omega) (by omega)];omega
   have df:(H.length+1)*32≤aa∧0<32:=by unfold aa;omega
   simp only[yU,if_true,e1,al (show x.e<9223372036854775807 by omega),e2,e3,e4,if_pos df,al (show pu<9223372036854775807 by omega),j4];refine(Ou rec t1 (es.map Ed.pv) ((es.length:Nat):Int) (k:Int) (pu+1) (dI n o) _ _ _ (H.length+1) rounds (H++[⟨z.t,x.len+z.c,x.e+1,pu⟩]) H.length (by omega) (by unfold rounds;omega) (by simp) (by simp;omega)).trans ?_;rw[al (by omega)];rw[show up (H.length+1) (H++[⟨z.t,x.len+z.c,x.e+1,pu⟩]) H.length=push H ⟨z.t,x.len+z.c,x.e+1,pu⟩from rfl];refine ih (pu+1) _ (by omega) (by omega) (by omega) ?_;have:(push H ⟨z.t,x.len+z.c,x.e+1,pu⟩).length=H.length+1:=by
    unfold push;have key:∀(f:Nat)(a:List Nd)(i:Nat),(up f a i).length=a.length:=by
     intro f;induction f with
     |zero=>intro a i;rfl
     |succ f ih=>
      intro a i;unfold up;split
      ·rw[ih,gS]
      ·rfl
    rw[key];simp
   omega
  ·simp only[yU,Bool.false_eq_true,if_false,al (show k<9223372036854775807 by omega)];exact ih pu H (by omega) (by omega) (by omega) (by omega)
end Go.Ab.Nw
namespace Go.Ab.Nw
set_option maxRecDepth 100000
set_option linter.unusedVariables false
set_option linter.unusedSimpArgs false
structure Gr(E:List Ed)(n:Nat)(ks vs:List PV):Prop where
 small:n<4294967296
 len:E.length<1073741824
 node:∀y∈E,y.f<n∧y.t<n∧y.c≤1073741824
 look:∀v:Nat,v<n→ab 3 (dH (.int .i64 v) (.rs 0 []) (ks.zip vs))=some ((E.filter fun y=>y.f==v).map Ed.pv)
section
variable {E:List Ed} {n:Nat} {ks vs:List PV}
def labelled(o:mE)(x:Nd):mE:=uQ o x.n (some (x.len,x.e))
def KR(dd:PV×List PV×Int×List PV×Unit→Option PV)(E:List Ed)(n:Nat)(ks vs:List PV)(o:mE)(x:Nd)(pu:Nat)(H:List Nd):Option PV:=
 if(o x.n).isSome=true then dd (.rm 3 ks vs,dI n o,(pu:Int),mf H,())
 else dd (.rm 3 ks vs,dI n (labelled o x),((mh (labelled o x) x (E.filter fun y=>y.f==x.n) pu H).1:Int),mf (mh (labelled o x) x (E.filter fun y=>y.f==x.n) pu H).2,())
structure Sm(n:Nat)(E:List Ed)(x:Nd)(pu:Nat)(H:List Nd):Prop where
 node:x.n<n
 len:x.len<4611686018427387904
 e:x.e<4611686018427387904
 pu:pu≤1073741824
 H:H.length≤1073741824
theorem vG(hG:Gr E n ks vs)(dd:PV×List PV×Int×List PV×Unit→Option PV)(o:mE)(x:Nd)(pu:Nat)(H:List Nd)(hS:Sm n E x pu H)(A:Int→PV→Int→Option PV):((asInt .i64 (.int .i64 x.n)).bind fun n23=>if ae n23 (dI n o).length then(dI n o)[n23.toNat]?.bind fun e24=>(asInt .i64 (cell e24 2)).bind fun n25=>if decide (n25≥0)=true then dd (.rm 3 ks vs,dI n o,(pu:Int),mf H,())else(asInt .i64 (.int .i64 x.n)).bind fun n26=>if ae n26 (dI n o).length then(dI n o)[n26.toNat]?.bind fun UJ=>(asInt .i64 (.int .i64 x.n)).bind fun n28=>dO 3 (.rm 3 ks vs) (A n26 UJ n28) fun Zs ri=>(ab 3 (dH (.int .i64 n28) (.rs 0 []) (Zs.zip ri))).bind fun Tg=>bK.run (c9 bK dd) (.rm 3 ks vs,Tg,(Tg.length:Int),0,(dI n o).set n26.toNat (.agg [.int .i64 x.n,.int .i64 x.len,.int .i64 x.e]),(pu:Int),.int .i64 x.n,.int .i64 x.len,.int .i64 x.e,mf H,())else none else none)=KR dd E n ks vs o x pu H:=by
 have oV:ae (x.n:Int) (dI n o).length:=Bb (by rw[oi];exact hS.node)
 obtain⟨w,w1,w2,w3⟩:=aba x.n (o x.n)
 simp only[Dj,U,if_pos oV,Int.toNat_natCast,oq o hS.node,w1,w3,dO,if_true,hG.look x.n hS.node,j4]
 unfold KR
 by_cases hs:(o x.n).isSome=true
 ·simp only[hs,if_true]
 ·simp only[hs,Bool.false_eq_true,if_false];have e1:(dI n o).set x.n (.agg [.int .i64 x.n,.int .i64 x.len,.int .i64 x.e])=dI n (labelled o x):=P9 o (x.len,x.e) hS.node;rw[e1];have hl:(E.filter fun y=>y.f==x.n).length≤E.length:=List.length_filter_le ..;have bO:∀z∈E.filter (fun y=>y.f==x.n),z∈E:=fun z hz=>(List.mem_filter.1 hz).1;have h1:=hG.len;have h2:=hS.pu;have h3:=hS.H;have:=Ez dd (.rm 3 ks vs) n (labelled o x) x (E.filter fun y=>y.f==x.n) (fun z hz=>(hG.node z (bO z hz)).2.1) hG.small hS.len hS.e (fun z hz=>by have:=(hG.node z (bO z hz)).2.2;omega) (by omega) (E.filter fun y=>y.f==x.n).length rounds 0 pu H (by omega) (by unfold rounds;omega) (by omega) (by omega);rw[List.drop_zero]at this;simpa using this
theorem Th{a:List Nd}{i:Nat}(h:2*i+1+1<a.length∧A9 (dC a (2*i+1+1)) (dC a (2*i+1))=true):Ew a i=2*i+1+1:=if_pos h
theorem Qa{a:List Nd}{i:Nat}(h:¬(2*i+1+1<a.length∧A9 (dC a (2*i+1+1)) (dC a (2*i+1))=true)):Ew a i=2*i+1:=if_neg h
theorem EA(hG:Gr E n ks vs)(dd:PV×List PV×Int×List PV×Unit→Option PV)(o:mE)(x:Nd)(pu:Nat)(z1 z2 z3:Int):∀(f N:Nat)(a:List Nd)(i:Nat),a.length≤f+i→f<N→i<4294967296→Sm n E x pu a→cj (dW bK dd) N ((i:Int),.rm 3 ks vs,(pu:Int),z1,z2,z3,.int .i64 x.n,.int .i64 x.len,.int .i64 x.e,dI n o,mf a,())=KR dd E n ks vs o x pu (down f a i)
 |_,0,_,_,_,h,_,_=>by omega
 |0,N+1,a,i,hf,hN,hi,hS=>by
  simp only[cj];generalize cj (dW bK dd) N=rec;unfold dW down;dsimp only;have e1:IntKind.i64.wrap (IntKind.i64.wrap (2*(i:Int))+1)=((2*i+1:Nat):Int):=by rw[fF (x:=2*(i:Int)) (by omega) (by omega),fF (by omega) (by omega)];omega
  have hg:decide (((2*i+1:Nat):Int)≥((mf a).length:Int))=true:=by simp;omega
  rw[e1,if_pos hg];exact vG hG dd o x pu a hS _
 |f+1,N+1,a,i,hf,hN,hi,hS=>by
  have ih:=EA hG dd o x pu z1 z2 z3 f N;simp only[cj];generalize cj (dW bK dd) N=rec at ih⊢;have e1:IntKind.i64.wrap (IntKind.i64.wrap (2*(i:Int))+1)=((2*i+1:Nat):Int):=by rw[fF (x:=2*(i:Int)) (by omega) (by omega),fF (by omega) (by omega)];omega
  have e2:IntKind.i64.wrap (((2*i+1:Nat):Int)+1)=((2*i+1+1:Nat):Int):=al (by omega);unfold dW down;dsimp only;rw[e1,e2];by_cases hl:a.length≤2*i+1
  ·have hg:decide (((2*i+1:Nat):Int)≥((mf a).length:Int))=true:=by simp;omega
   rw[if_pos hg,if_pos hl];exact vG hG dd o x pu a hS _
  ·have hg:¬decide (((2*i+1:Nat):Int)≥((mf a).length:Int))=true:=by simp;omega
   rw[if_neg hg,if_neg hl];have hlen:=hS.H;have np:i<a.length:=by omega
   have Y0:i<(mf a).length:=by simpa using np
   obtain⟨k1,k2,_⟩:=Tb hl;have Pq:Ew a i<(mf a).length:=by simpa using k1
   have hk3:Ew a i<((mf a).set i (dC a (Ew a i)).pv).length:=by simpa using k1
   have Ey:((mf a).set i (dC a (Ew a i)).pv)[Ew a i]?=some (dC a (Ew a i)).pv:=by rw[List.getElem?_set,if_neg (by omega),eH k1]
   have fin:=ih (swp a i (Ew a i)) (Ew a i) (by rw[gS];omega) (by omega) (by omega) ⟨hS.node,hS.len,hS.e,hS.pu,by rw[gS];exact hS.H⟩;by_cases hc:2*i+1+1<a.length∧A9 (dC a (2*i+1+1)) (dC a (2*i+1))=true
   ·have hk:=Th hc;have hd:decide (((2*i+1+1:Nat):Int)<((mf a).length:Int))=true:=by simp;omega
    rw[hd];rw[hk]at Pq hk3 Ey fin k1⊢;simp only[cond_true,rU a pu (2*i+1+1) (2*i+1) (by omega) (by omega),hc.2,U,asBool,if_true,rU a pu (2*i+1+1) i k1 np];by_cases hb:A9 (dC a (2*i+1+1)) (dC a i)=true
    ·rw[if_pos hb]at*;simp only[hb,Bool.not_true,Bool.false_eq_true,if_false,if_pos (Bb Y0),if_pos (Bb Pq),if_pos (Bb hk3),Int.toNat_natCast,eH np,eH k1,U,ndE,Ey,FX];exact fin
    ·rw[if_neg hb];have fV:(!A9 (dC a (2*i+1+1)) (dC a i))=true:=by simpa using hb
     rw[if_pos fV];exact vG hG dd o x pu a hS _
   ·have hk:=Qa hc;have hd:(bif decide (((2*i+1+1:Nat):Int)<((mf a).length:Int))then(aC [.rp [.fn 123 [],.rs 4 (mf a),.int .i64 (pu:Int)],.int .i64 ((2*i+1+1:Nat):Int),.int .i64 ((2*i+1:Nat):Int)]).bind fun r53=>(asBool r53).bind fun b54=>some b54 else some false)=some false:=by
     by_cases h2:2*i+1+1<a.length
     ·have hd:decide (((2*i+1+1:Nat):Int)<((mf a).length:Int))=true:=by simp;omega
      have hb:A9 (dC a (2*i+1+1)) (dC a (2*i+1))=false:=by
       cases hb:A9 (dC a (2*i+1+1)) (dC a (2*i+1))with
       |false=>rfl
       |true=>exact absurd ⟨h2,hb⟩ hc
      rw[hd,cond_true,rU a pu (2*i+1+1) (2*i+1) h2 (by omega),U,hb];rfl
     ·have hd:decide (((2*i+1+1:Nat):Int)<((mf a).length:Int))=false:=by simp;omega
      rw[hd];rfl
    rw[hd];rw[hk]at Pq hk3 Ey fin k1⊢;simp only[U,asBool,Bool.false_eq_true,if_false,rU a pu (2*i+1) i k1 np];by_cases hb:A9 (dC a (2*i+1)) (dC a i)=true
    ·rw[if_pos hb]at*;simp only[hb,Bool.not_true,Bool.false_eq_true,if_false,if_pos (Bb Y0),if_pos (Bb Pq),if_pos (Bb hk3),Int.toNat_natCast,eH np,eH k1,U,ndE,Ey,FX];exact fin
    ·rw[if_neg hb];have fV:(!A9 (dC a (2*i+1)) (dC a i))=true:=by simpa using hb
     rw[if_pos fV];exact vG hG dd o x pu a hS _
end
end Go.Ab.Nw
namespace Go.Ab.Nw
set_option maxRecDepth 100000
set_option linter.unusedVariables false
set_option linter.unusedSimpArgs false
section
variable {E:List Ed} {n:Nat} {ks vs:List PV}
theorem Qb(hG:Gr E n ks vs)(dd:PV×List PV×Int×List PV×Unit→Option PV)(o:mE)(pu:Nat)(H:List Nd)(hS:∀x∈H,Sm n E x pu H):dX bK (.rm 3 ks vs,dI n o,(pu:Int),mf H,()) dd=if H.length=0 then some (.rs 3 (dI n o))else KR dd E n ks vs o (dC H 0) pu (rest H):=by
 unfold dX;dsimp only;by_cases h0:H.length=0
 ·have hg:(((mf H).length:Int)==0)=true:=by rw[List.length_map,h0];rfl
  rw[if_pos hg,if_pos h0]
 ·have hg:¬(((mf H).length:Int)==0)=true:=by simp;intro h;exact h0 (by rw[h];rfl)
  rw[if_neg hg,if_neg h0];have hx:dC H 0∈H:=zi.2 ⟨0,by omega,rfl⟩;have YJ:=hS _ hx;have hH:=YJ.H;have hl:((mf H).length:Int)=(H.length:Int):=by simp
  have e1:IntKind.i64.wrap ((H.length:Int)-1)=((H.length-1:Nat):Int):=by rw[fF (by omega) (by omega)];omega
  have i0:ae (0:Int) (mf H).length:=Bb (i:=0) (by simp;omega);have hl1:H.length-1<(mf H).length:=by simp;omega
  have hl3:H.length-1<((mf H).set 0 (dC H (H.length-1)).pv).length:=by simp;omega
  have g0:(mf H)[0]?=some (dC H 0).pv:=eH (by omega);have gl:(mf H)[H.length-1]?=some (dC H (H.length-1)).pv:=eH (by omega);have g3:∃q,((mf H).set 0 (dC H (H.length-1)).pv)[H.length-1]?=some q:=⟨_,List.getElem?_eq_getElem hl3⟩;obtain⟨q,g3⟩:=g3;have z0:Int.toNat 0=0:=rfl;have iV:(0:Int)≤0∧0≤((H.length-1:Nat):Int)∧((H.length-1:Nat):Int)≤(((((mf H).set 0 (dC H (H.length-1)).pv).set (H.length-1) (dC H 0).pv).length:Nat):Int):=by refine⟨by omega,by omega,?_⟩;simp only[List.length_set,List.length_map];omega
  simp only[hl,e1,if_pos i0,z0,g0,U,if_pos (Bb hl1),Int.toNat_natCast,gl,ndE,if_pos (Bb hl3),g3,and_true,if_pos iV,Nat.sub_zero];simp only[nd0,nd1,nd2,FX,←List.map_take,j4];rw[if_pos (by refine⟨by omega,by omega,?_⟩;simp only[List.length_map,gS];omega)];have:=EA hG dd o (dC H 0) pu 0 0 0 (H.length+1) rounds (LR H) 0 (by simp[LR];omega) (by unfold rounds;omega) (by omega) ⟨YJ.node,YJ.len,YJ.e,YJ.pu,by simp[LR];omega⟩;exact this
theorem DI.small{s B:Nat}{o:mE}{pu:Nat}{H:List Nd}(h:DI E n s B o pu H)(hG:Gr E n ks vs)(hB:B≤1073741824)(hn:n≤64):∀x∈H,Sm n E x pu H:=fun x hx=>by have h1:=h.Tc x hx;have h2:=Ot n o;have h3:B*DA n o≤1073741824*64:=Nat.mul_le_mul hB (by omega);have h4:=h.cnt;have h5:=h.Zq;have h6:=hG.len;exact⟨h.node x hx,by omega,by omega,by omega,by omega⟩
theorem Qc(hG:Gr E n ks vs){s B:Nat}(hs:s<n)(hB:B≤1073741824)(hEB:∀y∈E,y.c≤B)(hn:n≤64):∃o pu,DI E n s B o pu []∧bK.run (dX bK) (.rm 3 ks vs,dI n (fun _=>none),1,[PV.agg [.int .i64 s,.int .i64 0,.int .i64 0,.int .i64 0]],())=some (.rs 3 (dI n o)):=by
 have hE:∀y∈E,y.f<n∧y.t<n∧y.c≤B:=fun y hy=>⟨(hG.node y hy).1,(hG.node y hy).2.1,hEB y hy⟩;have hlen:=hG.len;obtain⟨a,r,hI,⟨h0,hr⟩,mo⟩:=P8 (body:=dX bK) (A:=mE×Nat×List Nd) (fun a=>(PV.rm 3 ks vs,dI n a.1,(a.2.1:Int),mf a.2.2,())) (fun a=>DI E n s B a.1 a.2.1 a.2.2) (fun a=>a.2.2.length+te E a.1) (fun a r=>a.2.2=[]∧r=some (.rs 3 (dI n a.1))) (fun a hI dd=>by
  obtain⟨o,pu,H⟩:=a;have hI:DI E n s B o pu H:=hI;dsimp only;rw[Qb hG dd o pu H (hI.small hG hB hn)];by_cases hH:H.length=0
  ·right;rw[if_pos hH];exact⟨_,⟨List.eq_nil_of_length_eq_zero hH,rfl⟩,rfl⟩
  ·left;rw[if_neg hH];have cQ:0<H.length:=by omega
   unfold KR;by_cases rJ:(o (dC H 0).n).isSome=true
   ·rw[if_pos rJ];refine⟨(o,pu,rest H),hI.skip cQ rJ,?_,rfl⟩;have:=(FV hI.hp cQ).2.1;dsimp only;omega
   ·rw[if_neg rJ];have yU:o (dC H 0).n=none:=by simpa using rJ
    obtain⟨s1,s2⟩:=hI.settle hE cQ yU;exact⟨(_,_,_),s1,s2,rfl⟩) rounds ((fun _=>none),1,[⟨s,0,0,0⟩]) (DI.start hs) (by
  have:te E (fun _=>none)≤E.length:=List.countP_le_length;simp only[List.length_cons,List.length_nil];unfold rounds;omega)
 obtain⟨o,pu,H⟩:=a;dsimp only at h0 hr hI;subst h0;refine⟨o,pu,hI,?_⟩;rw[j4,←hr,←mo];rfl
theorem Qd(hG:Gr E n ks vs){s B:Nat}(hs:s<n)(hB:B≤1073741824)(hEB:∀y∈E,y.c≤B)(hn:n≤64):∃o pu,DI E n s B o pu []∧dq [.int .i64 n,.rm 3 ks vs,.int .i64 s]=some (.rs 3 (dI n o)):=by
 obtain⟨o,pu,hI,h⟩:=Qc hG hs hB hEB hn;refine⟨o,pu,hI,?_⟩;have df:(0:Int)≤(n:Int)∧(n:Int)≤(n:Int)∧n*24≤aa∧0<24∧0<3:=by refine⟨by omega,by omega,?_,by omega,by omega⟩;unfold aa;omega
 simp only[dq,nD,Dj,U,dO,if_true,if_pos df,Int.toNat_natCast,List.length_replicate];have fill:∀k,k≤n→((List.range n).map fun v=>if v<k then qA v none else PV.agg [.int .i64 0,.int .i64 0,.int .i64 0]).length=n:=fun k _=>by simp
 refine br (fun k=>(PV.rm 3 ks vs,(s:Int),(n:Int),(k:Int),(List.range n).map (fun v=>if v<k then qA v none else PV.agg [.int .i64 0,.int .i64 0,.int .i64 0]),())) n (fun k hk rec=>?_) (fun rec=>?_) (by unfold rounds;omega) ?_
 ·unfold gi;dsimp only;have hg:decide ((k:Int)<(n:Int))=true:=by simp;omega
  have oV:ae (k:Int) ((List.range n).map fun v=>if v<k then qA v none else PV.agg [.int .i64 0,.int .i64 0,.int .i64 0]).length:=Bb (by rw[fill k (by omega)];exact hk);have eH:((List.range n).map fun v=>if v<k then qA v none else PV.agg [.int .i64 0,.int .i64 0,.int .i64 0])[k]?=some (PV.agg [.int .i64 0,.int .i64 0,.int .i64 0]):=by simp[hk]
  have rJ:((List.range n).map fun v=>if v<k then qA v none else PV.agg [.int .i64 0,.int .i64 0,.int .i64 0]).set k (.agg [.int .i64 k,.int .i64 (-1),.int .i64 (-1)])=(List.range n).map fun v=>if v<k+1 then qA v none else PV.agg [.int .i64 0,.int .i64 0,.int .i64 0]:=by
   apply List.ext_getElem?;intro i;rw[List.getElem?_set];by_cases e:k=i
   ·subst e;simp[hk,qA]
   ·rw[if_neg e];by_cases hi:i<n
    ·simp only[List.getElem?_map,List.getElem?_range hi,Option.map_some];by_cases h1:i<k
     ·rw[if_pos h1,if_pos (by omega)]
     ·rw[if_neg h1,if_neg (by omega)]
    ·rw[List.getElem?_eq_none (by simp;omega),List.getElem?_eq_none (by simp;omega)]
  rw[if_pos hg,if_pos oV,Int.toNat_natCast,eH,U,rJ,al (by omega)]
 ·unfold gi;dsimp only;have hg:¬decide ((n:Int)<(n:Int))=true:=by simp
  have e0:IntKind.i64.wrap ((1:Nat)-1:Int)=0:=by decide
  have e1:IntKind.i64.wrap (0+1)=1:=by decide
  have J7:((List.range n).map fun v=>if v<n then qA v none else PV.agg [.int .i64 0,.int .i64 0,.int .i64 0])=dI n (fun _=>none):=by unfold dI;apply List.map_congr_left;intro v hv;rw[if_pos (List.mem_range.1 hv)]
  rw[if_neg hg,J7,e1];refine Eq.trans ?_ h;have first:∀N,cj (gj bK) (N+1) (IntKind.i64.wrap (((1:Nat):Int)-1),PV.rm 3 ks vs,1,dI n (fun _=>none),[PV.agg [.int .i64 s,.int .i64 0,.int .i64 0,.int .i64 0]],())=bK.run (dX bK) (.rm 3 ks vs,dI n (fun _=>none),1,[PV.agg [.int .i64 s,.int .i64 0,.int .i64 0,.int .i64 0]],()):=fun N=>by
   simp only[cj];generalize cj (gj bK) N=rec;unfold gj;dsimp only;have hg:decide (IntKind.i64.wrap (((1:Nat):Int)-1)>0)=false:=by decide
   rw[hg,cond_false,U,if_neg (by simp)]
  exact first 18446744073709551615
 ·congr 1;have:((List.range n).map fun v=>if v<0 then qA v none else PV.agg [.int .i64 0,.int .i64 0,.int .i64 0])=List.replicate n (PV.agg [.int .i64 0,.int .i64 0,.int .i64 0]):=by
   apply List.ext_getElem?;intro i;by_cases hi:i<n
   ·simp[hi,List.getElem?_replicate]
   ·rw[List.getElem?_eq_none (by simp;omega),List.getElem?_eq_none (by simp;omega)]
  rw[this];rfl
end
end Go.Ab.Nw
namespace Go.Ab.Nw
set_option maxRecDepth 100000
set_option linter.unusedVariables false
set_option linter.unusedSimpArgs false
theorem VZ{S R:Type}{body:S→(S→Option R)→Option R}{s:S}{r:Option R}(h:∀rec,body s rec=r):bK.run body s=r:=br (fun _=>s) 0 (fun k hk=>by omega) h (by unfold rounds;omega) rfl
def qB(n k:Nat)(F:Nat→PV)(z:PV):List PV:=(List.range n).map fun v=>if v<k then F v else z
theorem HY(n k:Nat)(F:Nat→PV)(z:PV):(qB n k F z).length=n:=by simp[qB]
theorem HZ{n k:Nat}{F:Nat→PV}{z:PV}(hk:k<n):(qB n k F z)[k]?=some z:=by simp[qB,hk]
theorem H0{n k:Nat}{F:Nat→PV}{z:PV}(hk:k<n):(qB n k F z).set k (F k)=qB n (k+1) F z:=by
 apply List.ext_getElem?;intro i;rw[List.getElem?_set];by_cases e:k=i
 ·subst e;simp[qB,hk]
 ·rw[if_neg e];unfold qB;by_cases hi:i<n
  ·simp only[List.getElem?_map,List.getElem?_range hi,Option.map_some];by_cases h1:i<k
   ·rw[if_pos h1,if_pos (by omega)]
   ·rw[if_neg h1,if_neg (by omega)]
  ·rw[List.getElem?_eq_none (by simp;omega),List.getElem?_eq_none (by simp;omega)]
theorem EB(n:Nat)(F:Nat→PV)(z:PV):qB n 0 F z=List.replicate n z:=by
 unfold qB;apply List.ext_getElem?;intro i;by_cases hi:i<n
 ·simp[hi,List.getElem?_replicate]
 ·rw[List.getElem?_eq_none (by simp;omega),List.getElem?_eq_none (by simp;omega)]
theorem H2(n:Nat)(F:Nat→PV)(z:PV):qB n n F z=(List.range n).map F:=by unfold qB;apply List.map_congr_left;intro v hv;rw[if_pos (List.mem_range.1 hv)]
def FY:Lab→Int
 |none=> -1
 |some (L,_)=>L
theorem afl(v:Nat)(l:Lab):asInt .i64 (cell (qA v l) 1)=some (FY l):=by
 cases l with
 |none=>rfl
 |some p=>obtain⟨L,e⟩:=p;rfl
theorem LS(n:Nat)(hn:n≤64)(o:mE):dz [.rs 3 (dI n o)]=some (.rs 1 ((List.range n).map fun v=>.int .i64 (FY (o v)))):=by
 have e0:ab 3 (.rs 3 (dI n o))=some (dI n o):=by simp[ab]
 have df:(0:Int)≤((n:Nat):Int)∧((n:Nat):Int)≤((n:Nat):Int)∧n*8≤aa∧0<8∧0<1:=by refine⟨by omega,by omega,?_,by omega,by omega⟩;unfold aa;omega
 simp only[dz,my,e0,U,oi,Int.toNat_natCast,if_pos df];refine br (fun k=>(dI n o,(n:Int),(k:Int),qB n k (fun v=>.int .i64 (FY (o v))) (.int .i64 0),())) n (fun k hk rec=>?_) (fun rec=>?_) (by unfold rounds;omega) ?_
 ·unfold jD;dsimp only;have hg:decide ((k:Int)<(n:Int))=true:=by simp;omega
  rw[if_pos hg,aq,oq o hk,U,afl,U,if_pos (Bb (by rw[HY];exact hk)),Int.toNat_natCast,HZ hk,U,al (by omega)];rw[H0 (F:=fun v=>PV.int .i64 (FY (o v))) hk]
 ·unfold jD;dsimp only;rw[if_neg (by simp),H2]
 ·rw[EB];rfl
theorem Ti(i n:Nat)(h:i<n):cB [.int .i64 i,.rp [.int .i64 n]]=some (.bool false):=by
 have h1:decide ((i:Int)<0)=false:=by simp
 have h2:decide ((i:Int)≥(n:Int))=false:=by simp;omega
 simp only[cB,mw,Dj,U,h1,cond_false,h2]
theorem ed0(y:Ed):cell y.pv 0=.int .i64 y.f:=rfl
theorem Tj(E:List Ed)(n:Nat)(hn:n≤64)(hE:E.length≤4096)(h:∀y∈E,y.f<n∧y.t<n∧y.c≤1073741824):eA [.int .i64 n,.rs 3 (E.map Ed.pv),.rs 0 []]=some (.int .i64 0):=by
 have e0:ab 3 (.rs 3 (E.map Ed.pv))=some (E.map Ed.pv):=by simp[ab]
 have e1:ab 1 (.rs 0 [])=some []:=by simp[ab]
 have h1:decide ((n:Int)<0)=false:=by simp
 have h2:decide ((n:Int)>64)=false:=by simp;omega
 have h3:¬decide (((E.map Ed.pv).length:Int)>4096)=true:=by simp;omega
 simp only[eA,pe,Dj,e0,e1,U,h1,h2,cond_false,Bool.false_eq_true,if_false,if_neg h3];refine br (fun k=>(([]:List PV),E.map Ed.pv,((E.map Ed.pv).length:Int),(k:Int),(n:Int),())) E.length (fun k hk rec=>?_) (fun rec=>?_) (by unfold rounds;omega) rfl
 ·unfold lS;dsimp only;have hg:decide ((k:Int)<((E.map Ed.pv).length:Int))=true:=by simp;omega
  obtain⟨z,hz⟩:∃z,E[k]?=some z:=⟨_,List.getElem?_eq_getElem hk⟩;have Dr:(E.map Ed.pv)[k]?=some z.pv:=by rw[List.getElem?_map,hz];rfl
  obtain⟨a1,a2,a3⟩:=h z (List.mem_of_getElem? hz);have h4:decide ((z.c:Int)<0)=false:=by simp
  have h5:decide ((z.c:Int)>1073741824)=false:=by simp;omega
  simp only[hg,if_true,aq,Dr,U,ed0,ed1,ed2,Dj,Ti _ _ a1,Ti _ _ a2,asBool,cond_false,Bool.false_eq_true,if_false,h4,h5,al (show k<9223372036854775807 by omega)]
 ·unfold lS;dsimp only;rw[if_neg (by simp)];refine VZ fun rec=>?_;unfold qC;dsimp only;rw[if_neg (by simp)]
abbrev FZ:=List (Nat×List Ed)
def F0(z:Ed):FZ→FZ
 |[]=>[(z.f,[z])]
 |(a,l)::r=>if z.f=a then(a,l++[z])::r else(a,l)::F0 z r
def ni(v:Nat):FZ→List Ed
 |[]=>[]
 |(a,l)::r=>if v=a then l else ni v r
def EC(m:FZ):List (PV×PV):=m.map fun x=>(.int .i64 x.1,.cK 3 (x.2.map Ed.pv))
theorem Tk(a b:Nat):cA (PV.int .i64 a).cells (PV.int .i64 b).cells=decide (a=b):=by
 have:((a:Int)==(b:Int))=decide (a=b):=by
  by_cases h:a=b
  ·simp[h]
  ·rw[decide_eq_false h,beq_eq_false_iff_ne];omega
 simp only[PV.cells,cA,peq,Bool.and_true,this]
theorem abb(v:Nat):∀m:FZ,GG 3 (.int .i64 v) (EC m)=some ((ni v m).map Ed.pv)
 |[]=>rfl
 |(a,l)::r=>by
  have ih:=abb v r;unfold EC at ih⊢;simp only[List.map_cons,GG,ni,Tk];by_cases h:v=a
  ·simp[h,aO]
  ·simp only[h,decide_false,Bool.false_eq_true,if_false];exact ih
theorem Ov(z:Ed):∀m:FZ,eM (.int .i64 z.f) (.cK 3 ((ni z.f m).map Ed.pv++[z.pv])) (qk (.int .i64 z.f) (EC m))=EC (F0 z m)
 |[]=>by simp[EC,qk,eM,F0,ni]
 |(a,l)::r=>by
  have ih:=Ov z r;unfold EC at ih⊢;simp only[List.map_cons,qk,F0,ni,Tk];by_cases h:z.f=a
  ·subst h;simp[eM,Tk]
  ·simp only[h,decide_false,Bool.false_eq_true,if_false,eM,Tk,List.map_cons];rw[ih]
theorem ED(v:Nat)(z:Ed):∀m:FZ,ni v (F0 z m)=ni v m++(if z.f=v then[z]else[])
 |[]=>by
  simp only[F0,ni];by_cases h:v=z.f
  ·simp[h]
  ·rw[if_neg h,if_neg fun e=>h e.symm];rfl
 |(a,l)::r=>by
  simp only[F0];by_cases h:z.f=a
  ·subst h;simp only[if_true,ni];by_cases hv:v=z.f
   ·simp[hv]
   ·rw[if_neg hv,if_neg hv,if_neg fun e=>hv e.symm];simp
  ·rw[if_neg h];simp only[ni];by_cases hv:v=a
   ·subst hv;rw[if_pos rfl,if_pos rfl,if_neg h];simp
   ·rw[if_neg hv,if_neg hv];exact ED v z r
def vO(E:List Ed):FZ:=E.foldl (fun m z=>F0 z m) []
theorem EE(E:List Ed)(z:Ed):vO (E++[z])=F0 z (vO E):=by simp[vO]
theorem EF(v:Nat)(E:List Ed):ni v (vO E)=E.filter fun y=>y.f==v:=by
 rw[←List.reverse_reverse E];induction E.reverse with
 |nil=>rfl
 |cons z l ih=>
  rw[List.reverse_cons,EE,ED,ih,List.filter_append];by_cases h:z.f=v
  ·simp[h]
  ·simp[h]
theorem abc(v:Nat):∀m:FZ,ab 3 (dH (.int .i64 v) (.rs 0 []) (((EC m).map fun x=>x.1).zip ((EC m).map fun x=>x.2.mj)))=some ((ni v m).map Ed.pv)
 |[]=>by simp[EC,dH,ab,ni]
 |(a,l)::r=>by
  have ih:=abc v r;unfold EC at ih⊢;simp only[List.map_cons,List.zip_cons_cons,dH,Tk,ni];by_cases h:v=a
  ·simp[h,PV.mj,ab]
  ·simp only[h,decide_false,Bool.false_eq_true,if_false];exact ih
theorem F1(E:List Ed)(hE:E.length≤4096):c7 [.rs 3 (E.map Ed.pv),.bool false]=some (.rm 3 ((EC (vO E)).map fun x=>x.1) ((EC (vO E)).map fun x=>x.2.mj)):=by
 have e0:ab 3 (.rs 3 (E.map Ed.pv))=some (E.map Ed.pv):=by simp[ab]
 simp only[c7,kz,e0,U,asBool];refine br (fun k=>(false,E.map Ed.pv,((E.map Ed.pv).length:Int),(k:Int),EC (vO (E.take k)),())) E.length (fun k hk rec=>?_) (fun rec=>?_) (by unfold rounds;omega) (by simp[vO,EC])
 ·unfold iA;dsimp only;have hg:decide ((k:Int)<((E.map Ed.pv).length:Int))=true:=by simp;omega
  obtain⟨z,hz⟩:∃z,E[k]?=some z:=⟨_,List.getElem?_eq_getElem hk⟩;have Dr:(E.map Ed.pv)[k]?=some z.pv:=by rw[List.getElem?_map,hz];rfl
  have htk:E.take (k+1)=E.take k++[z]:=by rw[List.take_add_one,hz];rfl
  have hce:PV.agg [cell z.pv 0,cell z.pv 1,cell z.pv 2]=z.pv:=rfl;have hlen:((ni z.f (vO (E.take k))).map Ed.pv++[z.pv]).length*24≤aa∧0<24:=by
   have:(ni z.f (vO (E.take k))).length≤E.length:=by rw[EF];exact Nat.le_trans (List.length_filter_le ..) (by rw[List.length_take];omega)
   simp only[List.length_append,List.length_map,List.length_cons,List.length_nil];unfold aa;omega
  rw[if_pos hg,aq,Dr,U,if_neg (by simp)];have afm:PV.agg [.int .i64 z.f,cell z.pv 1,cell z.pv 2]=z.pv:=rfl;simp only[ed0,Dj,U,abb,afm,if_pos hlen];rw[Ov,htk,EE,al (by omega)]
 ·unfold iA;dsimp only;rw[if_neg (by simp),List.take_length]
theorem Tl(E:List Ed)(n:Nat)(hn:n≤64)(hE:E.length≤4096)(h:∀y∈E,y.f<n∧y.t<n∧y.c≤1073741824):Gr E n ((EC (vO E)).map fun x=>x.1) ((EC (vO E)).map fun x=>x.2.mj):=⟨by omega,by omega,h,fun v _=>by rw[abc,EF]⟩
end Go.Ab.Nw
