import Derived.Test.YtanikidijjaohaaGreatAbLib
import Derived.Test.YtanikidijjaohaaGreatSh2
namespace Go.Ab.Nw
section
variable (w:Nat→Nat→Nat→Prop)
def Cx:Nat→Nat→Nat→Nat→Prop
 |0,i,j,L=>w i j L
 |k+1,i,j,L=>Cx k i j L∨∃A B,Cx k i k A∧Cx k k j B∧L=A+B
inductive kM:Nat→Nat→Nat→Prop
 |EZ {i j c:Nat}:w i j c→kM i j c
 |snoc {i m j A c:Nat}:kM i m A→w m j c→kM i j (A+c)
end
section
variable {w:Nat→Nat→Nat→Prop}
variable{i j L:Nat}
theorem Cx.up{k:Nat}(h:Cx w k i j L):Cx w (k+1) i j L:=.inl h
theorem Cx.le{k k':Nat}(hk:k≤k')(h:Cx w k i j L):Cx w k' i j L:=by
 induction hk with
 |refl=>exact h
 |step _ ih=>exact ih.up
theorem zW:∀(k:Nat){m i j A B:Nat},m<k→Cx w k i m A→Cx w k m j B→∃C,C≤A+B∧Cx w k i j C
 |0,_,_,_,_,_,h,_,_=>by omega
 |k+1,m,i,j,A,B,h,ha,hb=>by
  by_cases hm:m=k
  ·subst hm;have h1:∃A',A'≤A∧Cx w m i m A':=by
    rcases ha with ha|⟨X,Y,x,y,e⟩
    ·exact⟨A,Nat.le_refl _,ha⟩
    ·exact⟨X,by omega,x⟩
   have h2:∃B',B'≤B∧Cx w m m j B':=by
    rcases hb with hb|⟨X,Y,x,y,e⟩
    ·exact⟨B,Nat.le_refl _,hb⟩
    ·exact⟨Y,by omega,y⟩
   obtain⟨A',a1,a2⟩:=h1;obtain⟨B',b1,b2⟩:=h2;exact⟨A'+B',by omega,.inr ⟨A',B',a2,b2,rfl⟩⟩
  ·have bm:m<k:=by omega
   rcases ha with ha|⟨X,Y,x,y,e⟩
   ·rcases hb with hb|⟨X',Y',x',y',e'⟩
    ·obtain⟨C,c1,c2⟩:=zW k bm ha hb;exact⟨C,c1,.inl c2⟩
    ·obtain⟨C,c1,c2⟩:=zW k bm ha x';exact⟨C+Y',by omega,.inr ⟨C,Y',c2,y',rfl⟩⟩
   ·rcases hb with hb|⟨X',Y',x',y',e'⟩
    ·obtain⟨C,c1,c2⟩:=zW k bm y hb;exact⟨X+C,by omega,.inr ⟨X,C,x,c2,rfl⟩⟩
    ·exact⟨X+Y',by omega,.inr ⟨X,Y',x,y',rfl⟩⟩
theorem kM.join{m A B:Nat}(h1:kM w i m A)(h2:kM w m j B):kM w i j (A+B):=by
 induction h2 with
 |EZ h=>exact .snoc h1 h
 |snoc _ h ih=>rw[←Nat.add_assoc];exact .snoc ih h
theorem Cx.walk:∀{k i j L:Nat},Cx w k i j L→kM w i j L
 |0,_,_,_,h=>.EZ h
 |k+1,i,j,L,.inl h=>Cx.walk (k:=k) h
 |k+1,i,j,L,.inr ⟨A,B,h1,h2,e⟩=>by rw[e];exact(Cx.walk (k:=k) h1).join (Cx.walk (k:=k) h2)
theorem kM.via{n:Nat}(hn:∀i j c,w i j c→i<n)(h:kM w i j L):∃C,C≤L∧Cx w n i j C:=by
 induction h with
 |EZ h=>exact⟨_,Nat.le_refl _,Cx.le (Nat.zero_le _) (show Cx w 0 _ _ _ from h)⟩
 |snoc _ h ih=>obtain⟨C,c1,c2⟩:=ih;obtain⟨D,d1,d2⟩:=zW n (hn _ _ _ h) c2 (Cx.le (Nat.zero_le _) (show Cx w 0 _ _ _ from h));exact⟨D,by omega,d2⟩
variable{w':Nat→Nat→Nat→Prop}
theorem kM.mono(hw:∀i j c,w i j c→w' i j c)(h:kM w i j L):kM w' i j L:=by
 induction h with
 |EZ h=>exact .EZ (hw _ _ _ h)
 |snoc _ h ih=>exact .snoc ih (hw _ _ _ h)
theorem kM.leq(hw:∀i j c,w i j c→∃c',c'≤c∧w' i j c')(h:kM w i j L):∃L',L'≤L∧kM w' i j L':=by
 induction h with
 |EZ h=>obtain⟨c',h1,h2⟩:=hw _ _ _ h;exact⟨c',h1,.EZ h2⟩
 |snoc _ h ih=>obtain⟨c',h1,h2⟩:=hw _ _ _ h;obtain⟨L',l1,l2⟩:=ih;exact⟨L'+c',by omega,.snoc l2 h2⟩
def Q1(w:Nat→Nat→Nat→Prop)(i j:Nat)(o:Option Nat):Prop:=match o with
 |some L=>kM w i j L∧∀L',kM w i j L'→L≤L'
 |none=>∀L',¬kM w i j L'
theorem Q1.unique{o o':Option Nat}(h:Q1 w i j o)(h':Q1 w i j o'):o=o':=by
 cases o with
 |none=>cases o' with
  |none=>rfl
  |some L=>exact absurd h'.1 (h L)
 |some L=>cases o' with
  |none=>exact absurd h.1 (h' L)
  |some L'=>rw[Nat.le_antisymm (h.2 _ h'.1) (h'.2 _ h.1)]
structure Fw(w:Nat→Nat→Nat→Prop)(inf:Nat)(n:Nat)(d:Nat→Nat→Nat):Prop where
 top:∀i j,i<n→j<n→d i j≤inf
 real:∀i j,i<n→j<n→d i j<inf→kM w i j (d i j)
def rC(w:Nat→Nat→Nat→Prop)(k i j:Nat)(x:Nat):Prop:=∀L,Cx w k i j L→x≤L
variable{d:Nat→Nat→Nat}
theorem Yj{inf n k:Nat}(h:Fw w inf n d)(hi:i<n)(hj:j<n)(hk:k<n){x:Nat}(hx:x=min (d i j) (d i k+d k j)){d':Nat→Nat→Nat}(hd:∀a b,d' a b=if a=i∧b=j then x else d a b):Fw w inf n d'∧(∀a b,d' a b≤d a b)∧(rC w k i k (d i k)→rC w k k j (d k j)→rC w k i j (d i j)→rC w (k+1) i j (d' i j)):=by
 refine⟨⟨fun a b ha hb=>?_,fun a b ha hb bm=>?_⟩,fun a b=>?_,fun h1 h2 h3 L hL=>?_⟩
 ·rw[hd];split
  ·have:=h.top i j hi hj;omega
  ·exact h.top a b ha hb
 ·rw[hd]at bm⊢;split
  ·rename_i e;rw[if_pos e]at bm;obtain⟨rfl,rfl⟩:=e;by_cases hm:d a b≤d a k+d k b
   ·rw[show x=d a b by omega]at bm⊢;exact h.real a b ha hb bm
   ·have e2:x=d a k+d k b:=by omega
    rw[e2]at bm⊢;exact(h.real a k ha hk (by omega)).join (h.real k b hk hb (by omega))
  ·rename_i e;rw[if_neg e]at bm;exact h.real a b ha hb bm
 ·rw[hd];split
  ·rename_i e;obtain⟨rfl,rfl⟩:=e;omega
  ·exact Nat.le_refl _
 ·rw[hd,if_pos ⟨rfl,rfl⟩];rcases hL with hL|⟨A,B,a1,a2,e⟩
  ·have:=h3 _ hL;omega
  ·have:=h1 _ a1;have:=h2 _ a2;omega
theorem Yk{inf n:Nat}(hn:∀i j c,w i j c→i<n)(h:Fw w inf n d)(hi:i<n)(hj:j<n)(hb:rC w n i j (d i j))(oR:∀L,(∀L',kM w i j L'→L≤L')→kM w i j L→L<inf):Q1 w i j (if d i j<inf then some (d i j)else none):=by
 have low:∀L,kM w i j L→d i j≤L:=fun L hL=>by obtain⟨C,c1,c2⟩:=hL.via hn;exact Nat.le_trans (hb C c2) c1
 split
 ·rename_i bm;exact⟨h.real i j hi hj bm,low⟩
 ·rename_i Fo;intro L hL;have key:∀m,(∃L,L≤m∧kM w i j L)→∃L,kM w i j L∧∀L',kM w i j L'→L≤L':=by
   intro m;induction m with
   |zero=>rintro⟨L,hl,hw⟩;exact⟨L,hw,fun L' _=>by omega⟩
   |succ m ih=>
    rintro⟨L,hl,hw⟩;by_cases he:∃L,L≤m∧kM w i j L
    ·exact ih he
    ·refine⟨L,hw,fun L' hw'=>?_⟩;have:¬L'≤m:=fun hle=>he ⟨L',hle,hw'⟩;omega
  obtain⟨L0,h1,h2⟩:=key L ⟨L,Nat.le_refl _,hL⟩;have:=oR L0 h2 h1;have:=low L0 h1;omega
end
end Go.Ab.Nw
namespace Go.Ab.Nw
structure Nd where
 n:Nat
 len:Nat
 e:Nat
 num:Nat
 deriving DecidableEq,Inhabited
def CP(a b:Nd):Bool:=decide (a.len<b.len∨(a.len=b.len∧(a.e<b.e∨(a.e=b.e∧a.num<b.num))))
def uM(a b:Nd):Prop:=CP b a=false
theorem Q2(a b:Nd):CP a b=true↔(a.len<b.len∨(a.len=b.len∧(a.e<b.e∨(a.e=b.e∧a.num<b.num)))):=by simp[CP]
theorem zX(a b:Nd):uM a b↔¬(b.len<a.len∨(b.len=a.len∧(b.e<a.e∨(b.e=a.e∧b.num<a.num)))):=by unfold uM;rw[←Q2];simp
theorem Bi(a:Nd):uM a a:=by rw[zX];omega
theorem uN{a b c:Nd}(h:uM a b)(k:uM b c):uM a c:=by rw[zX]at*;omega
theorem wC{a b:Nd}(h:CP a b=true):uM a b:=by rw[zX];rw[Q2]at h;omega
theorem VY{a b:Nd}(h:uM a b):a.len≤b.len:=by rw[zX]at h;omega
def dF(a:List Nd)(i:Nat):Nd:=a.getD i default
variable{a:List Nd}{i:Nat}
theorem Ip(h:i<a.length):a[i]?=some (dF a i):=by simp[dF,List.getD,h]
def swp(a:List Nd)(i k:Nat):List Nd:=(a.set i (dF a k)).set k (dF a i)
@[simp] theorem jb(a:List Nd)(i k:Nat):(swp a i k).length=a.length:=by simp[swp]
theorem VZ(a:List Nd)(i j:Nat)(x:Nd)(h:i<a.length):dF (a.set i x) j=if j=i then x else dF a j:=by
 unfold dF List.getD;rw[List.getElem?_set];by_cases e:i=j
 ·subst e;simp[h]
 ·rw[if_neg e,if_neg fun h=>e h.symm]
theorem mW(a:List Nd)(i k j:Nat)(hi:i<a.length)(hk:k<a.length):dF (swp a i k) j=if j=k then dF a i else if j=i then dF a k else dF a j:=by unfold swp;rw[VZ _ _ _ _ (by simpa using hk),VZ _ _ _ _ hi]
theorem Bj{x:Nd}:x∈a↔∃i,i<a.length∧dF a i=x:=by
 rw[List.mem_iff_getElem?];constructor
 ·rintro⟨i,h⟩;have hi:=(List.getElem?_eq_some_iff.1 h).1;rw[Ip hi]at h;exact⟨i,hi,by simpa using h⟩
 ·rintro⟨i,hi,h⟩;exact⟨i,by rw[Ip hi,h]⟩
theorem CQ{k:Nat}(hi:i<a.length)(hk:k<a.length)(x:Nd):x∈swp a i k↔x∈a:=by
 rw[Bj,Bj];constructor
 ·rintro⟨j,hj,h⟩;rw[mW _ _ _ _ hi hk]at h;split at h
  ·exact⟨i,hi,h⟩
  ·split at h
   ·exact⟨k,hk,h⟩
   ·exact⟨j,by simpa using hj,h⟩
 ·rintro⟨j,hj,h⟩;by_cases e1:j=i
  ·subst e1;refine⟨k,by simpa using hk,?_⟩;rw[mW _ _ _ _ hi hk,if_pos rfl,h]
  ·by_cases e2:j=k
   ·subst e2;refine⟨i,by simpa using hi,?_⟩;rw[mW _ _ _ _ hi hk];split
    ·rename_i e;exact absurd e.symm e1
    ·rw[if_pos rfl,h]
   ·exact⟨j,by simpa using hj,by rw[mW _ _ _ _ hi hk,if_neg e2,if_neg e1,h]⟩
def Hp(a:List Nd):Prop:=∀j,0<j→j<a.length→uM (dF a ((j-1)/2)) (dF a j)
theorem Hp.min(h:Hp a):∀j,j<a.length→uM (dF a 0) (dF a j):=by
 intro j;induction j using Nat.strongRecOn with
 |ind j ih=>
  intro hj;by_cases h0:j=0
  ·subst h0;exact Bi _
  ·exact uN (ih ((j-1)/2) (by omega) (by omega)) (h j (by omega) hj)
def Yl(a:List Nd)(i:Nat):Prop:=(∀j,0<j→j<a.length→j≠i→uM (dF a ((j-1)/2)) (dF a j))∧∀c,0<c→c<a.length→(c-1)/2=i→0<i→uM (dF a ((i-1)/2)) (dF a c)
theorem Yl.done(h:Yl a i)(hi:i<a.length)(hs:i=0∨CP (dF a i) (dF a ((i-1)/2))=false):Hp a:=by
 intro j h0 hj;by_cases e:j=i
 ·subst e;rcases hs with hs|hs
  ·omega
  ·exact hs
 ·exact h.1 j h0 hj e
theorem Yl.step(h:Yl a i)(h0:0<i)(hi:i<a.length)(hb:CP (dF a i) (dF a ((i-1)/2))=true):Yl (swp a i ((i-1)/2)) ((i-1)/2):=by
 have hp:(i-1)/2<a.length:=by omega
 have hpi:(i-1)/2<i:=by omega
 obtain⟨p,Fs⟩:∃p,p=(i-1)/2:=⟨_,rfl⟩;rw[←Fs]at hp hpi hb⊢;have hle:=wC hb;refine⟨fun j j0 hj cB=>?_,fun c c0 hc hcp F1=>?_⟩
 ·rw[jb]at hj;rw[mW _ _ _ _ hi hp,mW _ _ _ _ hi hp,if_neg cB];by_cases e1:j=i
  ·subst e1;rw[←Fs,if_pos rfl,if_pos rfl];exact hle
  ·rw[if_neg e1];by_cases e2:(j-1)/2=p
   ·rw[if_pos e2];have:=h.1 j j0 hj e1;rw[e2]at this;exact uN hle this
   ·rw[if_neg e2];by_cases e3:(j-1)/2=i
    ·rw[if_pos e3];have:=h.2 j j0 hj e3 h0;rw[←Fs]at this;exact this
    ·rw[if_neg e3];exact h.1 j j0 hj e1
 ·rw[jb]at hc;have hpp:(p-1)/2≠p∧(p-1)/2≠i:=by omega
  rw[mW _ _ _ _ hi hp,mW _ _ _ _ hi hp,if_neg hpp.1,if_neg hpp.2];have h1:=h.1 p F1 hp (by omega);by_cases e1:c=p
  ·omega
  ·rw[if_neg e1];by_cases e2:c=i
   ·rw[if_pos e2];exact h1
   ·rw[if_neg e2];have:=h.1 c c0 hc e2;rw[hcp]at this;exact uN h1 this
theorem Yl.start(h:Hp a)(x:Nd):Yl (a++[x]) a.length:=by
 have Zp:∀j,j<a.length→dF (a++[x]) j=dF a j:=fun j hj=>by simp[dF,List.getD,List.getElem?_append_left hj]
 refine⟨fun j j0 hj cB=>?_,fun c c0 hc hcp h0=>?_⟩
 ·have:j<a.length:=by simp at hj;omega
  rw[Zp _ (by omega),Zp _ this];exact h j j0 this
 ·simp at hc;omega
def Ym(a:List Nd)(i:Nat):Prop:=(∀j,0<j→j<a.length→(j-1)/2≠i→uM (dF a ((j-1)/2)) (dF a j))∧∀c,0<c→c<a.length→(c-1)/2=i→0<i→uM (dF a ((i-1)/2)) (dF a c)
theorem Ym.done(h:Ym a i)(hs:∀c,0<c→c<a.length→(c-1)/2=i→uM (dF a i) (dF a c)):Hp a:=by
 intro j h0 hj;by_cases e:(j-1)/2=i
 ·rw[e];exact hs j h0 hj e
 ·exact h.1 j h0 hj e
theorem Ym.step{k:Nat}(h:Ym a i)(hk:k<a.length)(Xl:k=2*i+1∨k=2*i+2)(RF:∀c,0<c→c<a.length→(c-1)/2=i→uM (dF a k) (dF a c))(hb:CP (dF a k) (dF a i)=true):Ym (swp a i k) k:=by
 have hi:i<a.length:=by omega
 have hle:=wC hb;have hpk:(k-1)/2=i:=by omega
 refine⟨fun j j0 hj cB=>?_,fun c c0 hc hcp hk0=>?_⟩
 ·rw[jb]at hj;rw[mW _ _ _ _ hi hk,mW _ _ _ _ hi hk,if_neg cB];by_cases e1:j=k
  ·subst e1;rw[hpk,if_pos rfl,if_pos rfl];exact hle
  ·rw[if_neg e1];by_cases e2:(j-1)/2=i
   ·rw[if_pos e2,if_neg (by omega)];exact RF j j0 hj e2
   ·rw[if_neg e2];by_cases e3:j=i
    ·rw[if_pos e3];have:=h.2 k (by omega) hk hpk (by omega);rw[e3];exact this
    ·rw[if_neg e3];exact h.1 j j0 hj e2
 ·rw[jb]at hc;rw[mW _ _ _ _ hi hk,mW _ _ _ _ hi hk,hpk,if_neg (by omega),if_pos rfl,if_neg (by omega),if_neg (by omega)];have:=h.1 c c0 hc (by omega);rw[hcp]at this;exact this
theorem Ym.start(h:Hp a)(cB:0<a.length):Ym ((swp a 0 (a.length-1)).take (a.length-1)) 0:=by
 have hl:((swp a 0 (a.length-1)).take (a.length-1)).length=a.length-1:=by simp
 have Zp:∀j,0<j→j<a.length-1→dF ((swp a 0 (a.length-1)).take (a.length-1)) j=dF a j:=fun j j0 hj=>by
  have:dF ((swp a 0 (a.length-1)).take (a.length-1)) j=dF (swp a 0 (a.length-1)) j:=by simp[dF,List.getD,List.getElem?_take_of_lt hj]
  rw[this,mW _ _ _ _ (by omega) (by omega),if_neg (by omega),if_neg (by omega)]
 refine⟨fun j j0 hj cB=>?_,fun c _ _ _ h0=>by omega⟩;rw[hl]at hj;rw[Zp j j0 hj,Zp _ (by omega) (by omega)];exact h j j0 (by omega)
theorem Q3(cB:0<a.length)(y:Nd):(y∈(swp a 0 (a.length-1)).take (a.length-1)→y∈a)∧(y∈a→y=dF a 0∨y∈(swp a 0 (a.length-1)).take (a.length-1)):=by
 refine⟨fun h=>(CQ cB (by omega) y).1 (List.mem_of_mem_take h),fun h=>?_⟩;have h:=(CQ (i:=0) (k:=a.length-1) cB (by omega) y).2 h;rw[Bj]at h;obtain⟨j,hj,e⟩:=h;rw[jb]at hj;by_cases hl:j=a.length-1
 ·left;rw[mW _ _ _ _ cB (by omega),if_pos hl]at e;exact e.symm
 ·right;rw[List.mem_iff_getElem?];refine⟨j,?_⟩;rw[List.getElem?_take_of_lt (by omega),Ip (by simpa using hj),e]
end Go.Ab.Nw
namespace Go.Ab.Nw
theorem SR{S R A:Type}{body:S→(S→Option R)→Option R}(st:A→S)(I:A→Prop)(m:A→Nat)(fin:A→Option R→Prop)(h:∀a,I a→∀rec,(∃a',I a'∧m a'<m a∧body (st a) rec=rec (st a'))∨(∃r,fin a r∧body (st a) rec=r)):∀N a,I a→m a<N→∃a' r,I a'∧fin a' r∧c7 body N (st a)=r:=by
 intro N;induction N with
 |zero=>intro a _ h;omega
 |succ N ih=>
  intro a hI hm;simp only[c7];rcases h a hI (c7 body N)with⟨a',h1,h2,h3⟩|⟨r,h1,h2⟩
  ·obtain⟨a2,r,i1,i2,i3⟩:=ih a' h1 (by omega);exact⟨a2,r,i1,i2,by rw[h3];exact i3⟩
  ·exact⟨a,r,hI,h1,h2⟩
def up:Nat→List Nd→Nat→List Nd
 |0,a,_=>a
 |f+1,a,i=>if 0<i∧CP (dF a i) (dF a ((i-1)/2))=true then up f (swp a i ((i-1)/2)) ((i-1)/2)else a
def push(a:List Nd)(x:Nd):List Nd:=up (a.length+1) (a++[x]) a.length
def G0(a:List Nd)(i:Nat):Nat:=if 2*i+1+1<a.length∧CP (dF a (2*i+1+1)) (dF a (2*i+1))=true then 2*i+1+1 else 2*i+1
def down:Nat→List Nd→Nat→List Nd
 |0,a,_=>a
 |f+1,a,i=>if a.length≤2*i+1 then a else if CP (dF a (G0 a i)) (dF a i)=true then down f (swp a i (G0 a i)) (G0 a i)else a
def O1(a:List Nd):List Nd:=(swp a 0 (a.length-1)).take (a.length-1)
def rest(a:List Nd):List Nd:=down (a.length+1) (O1 a) 0
theorem ZI:∀(f:Nat){a:List Nd}{i:Nat},i<f→i<a.length→Yl a i→Hp (up f a i)∧(up f a i).length=a.length∧∀x,x∈up f a i↔x∈a
 |0,_,_,h,_,_=>by omega
 |f+1,a,i,hf,hi,h=>by
  unfold up;split
  ·rename_i hc;have hp:(i-1)/2<a.length:=by omega
   obtain⟨h1,h2,h3⟩:=ZI f (a:=swp a i ((i-1)/2)) (i:=(i-1)/2) (by omega) (by rw[jb];exact hp) (h.step hc.1 hi hc.2);exact⟨h1,by rw[h2,jb],fun x=>by rw[h3,CQ hi hp]⟩
  ·rename_i hc;refine⟨h.done hi ?_,rfl,fun x=>Iff.rfl⟩;by_cases h0:i=0
   ·exact .inl h0
   ·right;cases hb:CP (dF a i) (dF a ((i-1)/2))with
    |false=>rfl
    |true=>exact absurd ⟨by omega,hb⟩ hc
variable{a:List Nd}
theorem Yn(h:Hp a)(x:Nd):Hp (push a x)∧(push a x).length=a.length+1∧∀y,y∈push a x↔y∈a∨y=x:=by obtain⟨h1,h2,h3⟩:=ZI (a.length+1) (a:=a++[x]) (i:=a.length) (by omega) (by simp) (Yl.start h x);exact⟨h1,by unfold push;rw[h2];simp,fun y=>by unfold push;rw[h3];simp⟩
theorem V0{i:Nat}(h:¬a.length≤2*i+1):G0 a i<a.length∧(G0 a i=2*i+1∨G0 a i=2*i+2)∧∀c,0<c→c<a.length→(c-1)/2=i→uM (dF a (G0 a i)) (dF a c):=by
 unfold G0;split
 ·rename_i hc;refine⟨by omega,.inr rfl,fun c c0 hl hp=>?_⟩;have:c=2*i+1∨c=2*i+1+1:=by omega
  rcases this with rfl|rfl
  ·exact wC hc.2
  ·exact Bi _
 ·rename_i hc;refine⟨by omega,.inl rfl,fun c c0 hl hp=>?_⟩;have:c=2*i+1∨c=2*i+1+1:=by omega
  rcases this with rfl|rfl
  ·exact Bi _
  ·unfold uM;cases hb:CP (dF a (2*i+1+1)) (dF a (2*i+1))with
   |false=>rfl
   |true=>exact absurd ⟨hl,hb⟩ hc
theorem Q4:∀(f:Nat){a:List Nd}{i:Nat},a.length≤f+i→Ym a i→Hp (down f a i)∧(down f a i).length=a.length∧∀x,x∈down f a i↔x∈a
 |0,a,i,hf,h=>⟨h.done fun c c0 hc hp=>by omega,rfl,fun x=>Iff.rfl⟩
 |f+1,a,i,hf,h=>by
  unfold down;split
  ·exact⟨h.done fun c c0 hc hp=>by omega,rfl,fun x=>Iff.rfl⟩
  ·rename_i hl;obtain⟨k1,k2,k3⟩:=V0 hl;split
   ·rename_i hb;obtain⟨h1,h2,h3⟩:=Q4 f (a:=swp a i (G0 a i)) (i:=G0 a i) (by rw[jb];omega) (h.step k1 k2 k3 hb);exact⟨h1,by rw[h2,jb],fun x=>by rw[h3,CQ (by omega) k1]⟩
   ·rename_i hb;refine⟨h.done fun c c0 hc hp=>uN ?_ (k3 c c0 hc hp),rfl,fun x=>Iff.rfl⟩;unfold uM;exact Bool.not_eq_true _▸hb
theorem Iq(h:Hp a)(cB:0<a.length):Hp (rest a)∧(rest a).length=a.length-1∧(∀y∈rest a,y∈a)∧(∀y∈a,y=dF a 0∨y∈rest a)∧∀y∈a,(dF a 0).len≤y.len:=by
 have hl:(O1 a).length=a.length-1:=by simp[O1]
 obtain⟨h1,h2,h3⟩:=Q4 (a.length+1) (a:=O1 a) (i:=0) (by rw[hl];omega) (Ym.start h cB);refine⟨h1,by unfold rest;rw[h2,hl],fun y hy=>?_,fun y hy=>?_,fun y hy=>?_⟩
 ·exact(Q3 cB y).1 ((h3 y).1 hy)
 ·rcases(Q3 cB y).2 hy with h|h
  ·exact .inl h
  ·exact .inr ((h3 y).2 h)
 ·obtain⟨j,hj,rfl⟩:=Bj.1 hy;exact VY (h.min j hj)
structure Ed where
 f:Nat
 t:Nat
 c:Nat
 deriving DecidableEq,Inhabited
def ew(E:List Ed)(i j c:Nat):Prop:=(⟨i,j,c⟩:Ed)∈E
abbrev Lab:=Option (Nat×Nat)
abbrev nT:=Nat→Lab
def wE(o:nT)(v:Nat)(l:Lab):nT:=fun u=>if u=v then l else o u
def vd(E:List Ed)(o:nT):Nat:=E.countP fun y=>(o y.f).isNone
def FE(n:Nat)(o:nT):Nat:=(List.range n).countP fun v=>(o v).isSome
def Ir(E:List Ed)(s v L:Nat):Prop:=(v=s∧L=0)∨kM (ew E) s v L
structure DI(E:List Ed)(n s B:Nat)(o:nT)(pu:Nat)(H:List Nd):Prop where
 hp:Hp H
 node:∀x∈H,x.n<n
 real:∀x∈H,Ir E s x.n x.len
 lP:∀v L e,v<n→o v=some (L,e)→Ir E s v L∧∀L',Ir E s v L'→L≤L'
 front:∀u L e v c,u<n→o u=some (L,e)→(⟨u,v,c⟩:Ed)∈E→o v=none→∃x∈H,x.n=v∧x.len≤L+c
 src:o s=none→∃x∈H,x.n=s∧x.len=0
 V1:∀x∈H,x.len≤B*FE n o∧x.e≤FE n o
 aaZ:∀v L e,v<n→o v=some (L,e)→L≤B*n∧e≤n
 VE:pu+vd E o≤1+E.length
 aa0:H.length≤pu
theorem Q5(n:Nat)(o:nT):FE n o≤n:=by unfold FE;have:=List.countP_le_length (p:=fun v=>(o v).isSome) (l:=List.range n);simpa using this
theorem Cb{A:Type}[DecidableEq A]{p q:A→Bool}{v:A}:∀{l:List A},l.Nodup→v∈l→(∀u,u≠v→p u=q u)→p v=false→q v=true→l.countP q=l.countP p+1
 |a::l,hn,hv,hpq,h0,h1=>by
  rw[List.nodup_cons]at hn;rw[List.countP_cons,List.countP_cons];by_cases e:a=v
  ·subst e;have:l.countP q=l.countP p:=by apply List.countP_congr;intro u hu;rw[hpq u fun e=>by subst e;exact hn.1 hu]
   rw[this,h0,h1];simp
  ·have P6:v∈l:=by rcases List.mem_cons.1 hv with h|h;exact absurd h.symm e;exact h
   rw[Cb hn.2 P6 hpq h0 h1,hpq a e];omega
variable{o:nT}
theorem V2{n:Nat}{v:Nat}{l:Nat×Nat}(hv:v<n)(h:o v=none):FE n (wE o v (some l))=FE n o+1:=Cb (p:=fun v=>(o v).isSome) (q:=fun u=>(wE o v (some l) u).isSome) (v:=v) List.nodup_range (List.mem_range.2 hv) (fun u hu=>by simp[wE,hu]) (by simp[h]) (by simp[wE])
theorem DI.least{E:List Ed}{n s B:Nat}{pu:Nat}{H:List Nd}(h:DI E n s B o pu H)(hE:∀y∈E,y.f<n∧y.t<n){v L:Nat}(hv:o v=none)(hw:Ir E s v L):∃x∈H,x.len≤L:=by
 cases hs:o s with
 |none=>obtain⟨x,h1,_,h2⟩:=h.src hs;exact⟨x,h1,by omega⟩
 |some l=>
  obtain⟨Ls,es⟩:=l;rcases hw with⟨rfl,_⟩|hw
  ·rw[hs]at hv;cases hv
  have key:∀{v L:Nat},kM (ew E) s v L→o v=none→∃x∈H,x.len≤L:=by
   intro v L hw;induction hw with
   | @EZ j c hc=>intro hv;have ow:s<n:=(hE _ hc).1;obtain⟨x,h1,_,h2⟩:=h.front s Ls es j c ow hs hc hv;have:=(h.lP s Ls es ow hs).2 0 (.inl ⟨rfl,rfl⟩);exact⟨x,h1,by omega⟩
   | @snoc m j A c hA hc ih=>
    intro hv;cases hm:o m with
    |none=>obtain⟨x,h1,h2⟩:=ih hm;exact⟨x,h1,by omega⟩
    |some l=>obtain⟨Lm,em⟩:=l;have ow:m<n:=(hE _ hc).1;obtain⟨x,h1,_,h2⟩:=h.front m Lm em j c ow hm hc hv;have:=(h.lP m Lm em ow hm).2 A (.inr hA);exact⟨x,h1,by omega⟩
  exact key hw hv
theorem DI.skip{E:List Ed}{n s B:Nat}{pu:Nat}{H:List Nd}(h:DI E n s B o pu H)(cB:0<H.length)(rM:(o (dF H 0).n).isSome=true):DI E n s B o pu (rest H):=by
 obtain⟨r1,r2,r3,r4,r5⟩:=Iq h.hp cB;have other:∀x∈H,o x.n=none→x∈rest H:=fun x hx hn=>by
  rcases r4 x hx with e|e
  ·rw[e]at hn;rw[hn]at rM;cases rM
  ·exact e
 refine⟨r1,fun x hx=>h.node x (r3 x hx),fun x hx=>h.real x (r3 x hx),h.lP,fun u L e v c hu ho he hv=>?_,fun hs=>?_,fun x hx=>h.V1 x (r3 x hx),h.aaZ,h.VE,by rw[r2];have:=h.aa0;omega⟩
 ·obtain⟨x,x1,x2,x3⟩:=h.front u L e v c hu ho he hv;exact⟨x,other x x1 (by rw[x2];exact hv),x2,x3⟩
 ·obtain⟨x,x1,x2,x3⟩:=h.src hs;exact⟨x,other x x1 (by rw[x2];exact hs),x2,x3⟩
end Go.Ab.Nw
namespace Go.Ab.Nw
def nk(o:nT)(x:Nd):List Ed→Nat→List Nd→Nat×List Nd
 |[],pu,H=>(pu,H)
 |z::es,pu,H=>if(o z.t).isNone=true then nk o x es (pu+1) (push H ⟨z.t,x.len+z.c,x.e+1,pu⟩)else nk o x es pu H
theorem E0{o:nT}{x:Nd}:∀{es:List Ed}{pu:Nat}{H:List Nd},Hp H→∃k,k≤es.length∧(nk o x es pu H).1=pu+k∧(nk o x es pu H).2.length=H.length+k∧Hp (nk o x es pu H).2∧(∀y∈(nk o x es pu H).2,y∈H∨∃z∈es,o z.t=none∧y.n=z.t∧y.len=x.len+z.c∧y.e=x.e+1)∧(∀y∈H,y∈(nk o x es pu H).2)∧∀z∈es,o z.t=none→∃y∈(nk o x es pu H).2,y.n=z.t∧y.len=x.len+z.c
 |[],pu,H,h=>⟨0,Nat.le_refl _,rfl,rfl,h,fun y hy=>.inl hy,fun y hy=>hy,fun z hz=>by cases hz⟩
 |z::es,pu,H,h=>by
  unfold nk;split
  ·rename_i hz;have hz:o z.t=none:=by simpa using hz
   obtain⟨p1,p2,p3⟩:=Yn h ⟨z.t,x.len+z.c,x.e+1,pu⟩;obtain⟨k,k1,k2,k3,k4,k5,k6,k7⟩:=E0 (o:=o) (x:=x) (es:=es) (pu:=pu+1) p1;refine⟨k+1,by simp;omega,by rw[k2];omega,by rw[k3,p2];omega,k4,fun y hy=>?_,fun y hy=>k6 y ((p3 y).2 (.inl hy)),fun z' TM hn=>?_⟩
   ·rcases k5 y hy with h1|⟨z',h1,h2⟩
    ·rcases(p3 y).1 h1 with h1|rfl
     ·exact .inl h1
     ·exact .inr ⟨z,by simp,hz,rfl,rfl,rfl⟩
    ·exact .inr ⟨z',by simp[h1],h2⟩
   ·rcases List.mem_cons.1 TM with rfl|TM
    ·exact⟨_,k6 _ ((p3 _).2 (.inr rfl)),rfl,rfl⟩
    ·exact k7 z' TM hn
  ·rename_i hz;obtain⟨k,k1,k2,k3,k4,k5,k6,k7⟩:=E0 (o:=o) (x:=x) (es:=es) (pu:=pu) h;refine⟨k,by simp;omega,k2,k3,k4,fun y hy=>?_,k6,fun z' TM hn=>?_⟩
   ·rcases k5 y hy with h1|⟨z',h1,h2⟩
    ·exact .inl h1
    ·exact .inr ⟨z',by simp[h1],h2⟩
   ·rcases List.mem_cons.1 TM with rfl|TM
    ·rw[hn]at hz;exact absurd rfl hz
    ·exact k7 z' TM hn
theorem V3(E:List Ed)(o:nT)(v:Nat)(l:Nat×Nat)(h:o v=none):vd E o=vd E (wE o v (some l))+(E.filter fun y=>y.f==v).length:=by
 unfold vd;induction E with
 |nil=>rfl
 |cons y E ih=>
  rw[List.countP_cons,List.countP_cons,List.filter_cons,ih];by_cases e:y.f=v
  ·subst e;simp[wE,h];omega
  ·simp[wE,e];omega
variable{E:List Ed}
theorem DI.settle{n s B:Nat}{o:nT}{pu:Nat}{H:List Nd}(h:DI E n s B o pu H)(hE:∀y∈E,y.f<n∧y.t<n∧y.c≤B)(cB:0<H.length)(AM:o (dF H 0).n=none):DI E n s B (wE o (dF H 0).n (some ((dF H 0).len,(dF H 0).e))) (nk (wE o (dF H 0).n (some ((dF H 0).len,(dF H 0).e))) (dF H 0) (E.filter fun y=>y.f==(dF H 0).n) pu (rest H)).1 (nk (wE o (dF H 0).n (some ((dF H 0).len,(dF H 0).e))) (dF H 0) (E.filter fun y=>y.f==(dF H 0).n) pu (rest H)).2∧(nk (wE o (dF H 0).n (some ((dF H 0).len,(dF H 0).e))) (dF H 0) (E.filter fun y=>y.f==(dF H 0).n) pu (rest H)).2.length+vd E (wE o (dF H 0).n (some ((dF H 0).len,(dF H 0).e)))<H.length+vd E o:=by
 obtain⟨r1,r2,r3,r4,r5⟩:=Iq h.hp cB;obtain⟨x,hx⟩:∃x,x=dF H 0:=⟨_,rfl⟩;rw[←hx]at AM r4 r5⊢;have hxm:x∈H:=Bj.2 ⟨0,cB,hx.symm⟩;have hxn:=h.node x hxm;obtain⟨o1,ho1⟩:∃o1,o1=wE o x.n (some (x.len,x.e)):=⟨_,rfl⟩;rw[←ho1];have oo:∀v,o1 v=if v=x.n then some (x.len,x.e)else o v:=fun v=>by rw[ho1];rfl
 have on:∀v,o1 v=none→v≠x.n∧o v=none:=fun v hv=>by
  rw[oo]at hv;split at hv
  ·cases hv
  ·exact⟨‹_›,hv⟩
 obtain⟨k,k1,k2,k3,k4,k5,k6,k7⟩:=E0 (o:=o1) (x:=x) (es:=E.filter fun y=>y.f==x.n) (pu:=pu) r1;have hs:FE n o1=FE n o+1:=by rw[ho1];exact V2 hxn AM
 have R0:vd E o=vd E o1+(E.filter fun y=>y.f==x.n).length:=by rw[ho1];exact V3 E o x.n _ AM
 have mem:∀z,z∈(E.filter fun y=>y.f==x.n)↔z∈E∧z.f=x.n:=fun z=>by simp[List.mem_filter]
 have go:∀z,z∈E→z.f=x.n→kM (ew E) s z.t (x.len+z.c):=fun z hz hf=>by
  have he:ew E x.n z.t z.c:=by
   unfold ew;have:(⟨x.n,z.t,z.c⟩:Ed)=z:=by rw[←hf]
   rw[this];exact hz
  rcases h.real x hxm with⟨e1,e2⟩|hw
  ·rw[e2,Nat.zero_add];rw[e1]at he;exact .EZ he
  ·exact .snoc hw he
 have other:∀y∈H,y.n≠x.n→y∈(nk o1 x (E.filter fun y=>y.f==x.n) pu (rest H)).2:=fun y hy hn=>by
  rcases r4 y hy with e|e
  ·exact absurd (by rw[e]) hn
  ·exact k6 y e
 refine⟨⟨k4,fun y hy=>?_,fun y hy=>?_,fun v L e hv ho=>?_,fun u L e v c hu ho he hv=>?_,fun hs'=>?_,fun y hy=>?_,fun v L e hv ho=>?_,?_,?_⟩,?_⟩
 ·rcases k5 y hy with h1|⟨z,z1,z2,z3,_⟩
  ·exact h.node y (r3 y h1)
  ·rw[z3];exact(hE z ((mem z).1 z1).1).2.1
 ·rcases k5 y hy with h1|⟨z,z1,z2,z3,z4,_⟩
  ·exact h.real y (r3 y h1)
  ·rw[z3,z4];exact .inr (go z ((mem z).1 z1).1 ((mem z).1 z1).2)
 ·rw[oo]at ho;split at ho
  ·rename_i e';simp only[Option.some.injEq,Prod.mk.injEq]at ho;obtain⟨rfl,rfl⟩:=ho;subst e';refine⟨h.real x hxm,fun L' hL=>?_⟩;obtain⟨y,y1,y2⟩:=h.least (fun y hy=>⟨(hE y hy).1,(hE y hy).2.1⟩) AM hL;exact Nat.le_trans (r5 y y1) y2
  ·exact h.lP v L e hv ho
 ·obtain⟨v1,v2⟩:=on v hv;rw[oo]at ho;split at ho
  ·rename_i e';simp only[Option.some.injEq,Prod.mk.injEq]at ho;obtain⟨rfl,rfl⟩:=ho;obtain⟨y,y1,y2,y3⟩:=k7 ⟨u,v,c⟩ ((mem _).2 ⟨he,e'⟩) hv;exact⟨y,y1,y2,by rw[y3];exact Nat.le_refl _⟩
  ·obtain⟨y,y1,y2,y3⟩:=h.front u L e v c hu ho he v2;exact⟨y,other y y1 (by rw[y2];exact v1),y2,y3⟩
 ·obtain⟨v1,v2⟩:=on s hs';obtain⟨y,y1,y2,y3⟩:=h.src v2;exact⟨y,other y y1 (by rw[y2];exact v1),y2,y3⟩
 ·rw[hs,Nat.mul_succ];rcases k5 y hy with h1|⟨z,z1,z2,z3,z4,z5⟩
  ·have:=h.V1 y (r3 y h1);omega
  ·have:=h.V1 x hxm;have:=(hE z ((mem z).1 z1).1).2.2;omega
 ·rw[oo]at ho;split at ho
  ·simp only[Option.some.injEq,Prod.mk.injEq]at ho;obtain⟨rfl,rfl⟩:=ho;have h1:=h.V1 x hxm;have h2:=Q5 n o;have h3:B*FE n o≤B*n:=Nat.mul_le_mul_left _ h2;omega
  ·exact h.aaZ v L e hv ho
 ·have:=h.VE;omega
 ·have:=h.aa0;omega
 ·rw[k3,r2];omega
theorem DI.start{n s B:Nat}(hs:s<n):DI E n s B (fun _=>none) 1 [⟨s,0,0,0⟩]:=by
 refine⟨fun j j0 hj=>by simp at hj;omega,fun x hx=>?_,fun x hx=>?_,fun v L e _ h=>(by cases h),fun u L e v c _ h=>(by cases h),fun _=>⟨⟨s,0,0,0⟩,by simp,rfl,rfl⟩,fun x hx=>?_,fun v L e _ h=>(by cases h),?_,by simp⟩
 ·simp at hx;subst hx;exact hs
 ·simp at hx;subst hx;exact .inl ⟨rfl,rfl⟩
 ·simp at hx;subst hx;simp
 ·have:vd E (fun _=>none)=E.length:=by simp[vd]
  omega
theorem DI.done{n s B:Nat}{o:nT}{pu:Nat}(h:DI E n s B o pu [])(hE:∀y∈E,y.f<n∧y.t<n∧y.c≤B){v:Nat}(hv:v<n):match o v with
 |some (L,_)=>L≤B*n∧Ir E s v L∧∀L',Ir E s v L'→L≤L'
 |none=>∀L',¬Ir E s v L':=by
 cases ho:o v with
 |some l=>obtain⟨L,e⟩:=l;exact⟨(h.aaZ v L e hv ho).1,h.lP v L e hv ho⟩
 |none=>
  intro L' hL
  obtain⟨x,hx,_⟩:=h.least (fun y hy=>⟨(hE y hy).1,(hE y hy).2.1⟩) ho hL
  cases hx
end Go.Ab.Nw
namespace Go.Ab.Nw
set_option maxRecDepth 100000
set_option linter.unusedVariables false
set_option linter.unusedSimpArgs false
def Nd.pv(x:Nd):PV:=.agg [.int .i64 x.n,.int .i64 x.len,.int .i64 x.e,.int .i64 x.num]
abbrev nf(a:List Nd):List PV:=a.map Nd.pv
theorem nd0(x:Nd):cell x.pv 0=.int .i64 x.n:=rfl
theorem nd1(x:Nd):cell x.pv 1=.int .i64 x.len:=rfl
theorem nd2(x:Nd):cell x.pv 2=.int .i64 x.e:=rfl
theorem nd3(x:Nd):cell x.pv 3=.int .i64 x.num:=rfl
theorem ndE(x:Nd):PV.agg [cell x.pv 0,cell x.pv 1,cell x.pv 2,cell x.pv 3]=x.pv:=rfl
theorem er{a:List Nd}{i:Nat}(h:i<a.length):(nf a)[i]?=some (dF a i).pv:=by rw[List.getElem?_map,Ip h];rfl
theorem acv(a b c:PV):cell (.agg [a,b,c]) 0=a:=rfl
theorem aa1(a b c:PV):cell (.agg [a,b,c]) 1=b:=rfl
theorem acw(a b c:PV):cell (.agg [a,b,c]) 2=c:=rfl
theorem ag3(a b c:PV):asAgg 3 (.agg [a,b,c])=some ():=rfl
theorem Yo(a b:Nd):gp [.agg [cell a.pv 0,cell a.pv 1,cell a.pv 2],.agg [cell b.pv 0,cell b.pv 1,cell b.pv 2]]=some (.bool (decide (a.len<b.len∨(a.len=b.len∧a.e<b.e)))):=by
 simp only[gp,sD,ag3,acv,aa1,acw,nd0,nd1,nd2,if_true,U,asInt];by_cases h1:a.len<b.len
 ·simp[h1]
 ·by_cases h2:a.len=b.len
  ·simp[h2]
  ·have:((a.len:Int)==(b.len:Int))=false:=by rw[beq_eq_false_iff_ne];omega
   simp[h1,h2,this]
theorem tH(a:List Nd)(pu:Nat)(i k:Nat)(hi:i<a.length)(hk:k<a.length):aM [.rp [.fn 156 [],.rs 4 (nf a),.int .i64 pu],.int .i64 i,.int .i64 k]=some (.bool (CP (dF a i) (dF a k))):=by
 have e0:aa 4 (PV.rs 4 (nf a))=some (nf a):=by simp[aa]
 simp only[aM,ef,aa1,acw,e0,U,asInt,if_true,aQ,er hi,er hk,Yo,asBool,nd3];generalize dF a i=x;generalize dF a k=y;unfold CP;by_cases h1:x.len<y.len∨(x.len=y.len∧x.e<y.e)
 ·have:(x.len<y.len∨(x.len=y.len∧(x.e<y.e∨(x.e=y.e∧x.num<y.num)))):=by omega
  simp[h1,this]
 ·by_cases h2:y.len<x.len∨(y.len=x.len∧y.e<x.e)
  ·have:¬(x.len<y.len∨(x.len=y.len∧(x.e<y.e∨(x.e=y.e∧x.num<y.num)))):=by omega
   simp[h1,h2,this]
  ·have:(x.len<y.len∨(x.len=y.len∧(x.e<y.e∨(x.e=y.e∧x.num<y.num))))↔x.num<y.num:=by omega
   simp[h1,h2,this]
theorem half(i:Nat)(h:0<i)(hi:i<4611686018427387904):IntKind.i64.wrap ((IntKind.i64.wrap ((i:Int)-1)).tdiv 2)=(((i-1)/2:Nat):Int):=by
 have e1:IntKind.i64.wrap ((i:Int)-1)=((i-1:Nat):Int):=by rw[bF (by omega) (by omega)];omega
 have e2:((i-1:Nat):Int).tdiv 2=(((i-1)/2:Nat):Int):=rfl;rw[e1,e2,bF (by omega) (by omega)]
theorem CR{i:Nat}{es:List PV}(h:i<es.length):ah (i:Int) es.length:=⟨by omega,by omega⟩
theorem Is(a:List Nd)(i k:Nat):((nf a).set i (dF a k).pv).set k (dF a i).pv=nf (swp a i k):=by simp[swp,List.map_set]
theorem Q6(rD:TY2→Option PV)(t1:PV)(es:List PV)(ln ix:Int)(pu:Nat)(out:List PV)(x0 x1 x2:PV):∀(f N:Nat)(a:List Nd)(i:Nat),i<f→f≤N→i<a.length→a.length<4611686018427387904→c7 (lQ rD) N ((i:Int),t1,es,ln,ix,(pu:Int),out,x0,x1,x2,nf a,())=rD (t1,es,ln,IntKind.i64.wrap (ix+1),out,(pu:Int),x0,x1,x2,nf (up f a i),())
 |0,_,_,_,h,_,_,_=>by omega
 |f+1,0,_,_,_,h,_,_=>by omega
 |f+1,N+1,a,i,hf,hN,hi,ha=>by
  simp only[c7];unfold lQ up;by_cases h0:0<i
  ·have hp:(i-1)/2<a.length:=by omega
   have hg:decide ((i:Int)>0)=true:=by simp;omega
   simp only[hg,cond_true,half i h0 (by omega),tH a pu i ((i-1)/2) hi hp,U,asBool];by_cases hb:CP (dF a i) (dF a ((i-1)/2))=true
   ·have hl1:i<(nf a).length:=by simpa using hi
    have hl2:(i-1)/2<(nf a).length:=by simpa using hp
    have hl3:(i-1)/2<((nf a).set i (dF a ((i-1)/2)).pv).length:=by simpa using hp
    have G1:((nf a).set i (dF a ((i-1)/2)).pv)[(i-1)/2]?=some (dF a ((i-1)/2)).pv:=by rw[List.getElem?_set];rw[if_neg (by omega),er hp]
    simp only[hb,if_true,if_pos (CR hl1),if_pos (CR hl2),if_pos (CR hl3),Int.toNat_natCast,er hi,er hp,U,ndE,G1,Is,h0,and_self];exact Q6 rD t1 es ln ix pu out x0 x1 x2 f N (swp a i ((i-1)/2)) ((i-1)/2) (by omega) (by omega) (by rw[jb];exact hp) (by rw[jb];exact ha)
   ·simp only[hb,Bool.false_eq_true,if_false,and_false]
  ·have hg:decide ((i:Int)>0)=false:=by simp;omega
   simp only[hg,cond_false,U,Bool.false_eq_true,if_false,h0,false_and]
end Go.Ab.Nw
namespace Go.Ab.Nw
set_option maxRecDepth 100000
set_option linter.unusedVariables false
set_option linter.unusedSimpArgs false
def sb(v:Nat):Lab→PV
 |none=>.agg [.int .i64 v,.int .i64 (-1),.int .i64 (-1)]
 |some (L,e)=>.agg [.int .i64 v,.int .i64 (L:Int),.int .i64 (e:Int)]
def dJ(n:Nat)(o:nT):List PV:=(List.range n).map fun v=>sb v (o v)
def Ed.pv(y:Ed):PV:=.agg [.int .i64 y.f,.int .i64 y.t,.int .i64 y.c]
theorem pZ(n:Nat)(o:nT):(dJ n o).length=n:=by simp[dJ]
theorem qd{n v:Nat}(o:nT)(h:v<n):(dJ n o)[v]?=some (sb v (o v)):=by simp[dJ,h]
theorem SS{n v:Nat}(o:nT)(l:Nat×Nat)(h:v<n):(dJ n o).set v (sb v (some l))=dJ n (wE o v (some l)):=by
 apply List.ext_getElem?;intro i;rw[List.getElem?_set];by_cases e:v=i
 ·subst e;rw[if_pos rfl,if_pos (by rw[pZ];exact h),qd _ h];simp[wE]
 ·rw[if_neg e];by_cases hi:i<n
  ·rw[qd _ hi,qd _ hi];simp[wE,Ne.symm e]
  ·rw[List.getElem?_eq_none (by rw[pZ];omega),List.getElem?_eq_none (by rw[pZ];omega)]
theorem acx(v:Nat)(l:Lab):∃z:Int,asInt .i64 (cell (sb v l) 2)=some z∧(decide (z<0)=l.isNone)∧decide (z≥0)=l.isSome:=by
 cases l with
 |none=>exact⟨-1,rfl,rfl,rfl⟩
 |some p=>obtain⟨L,e⟩:=p;exact⟨e,rfl,by simp,by simp⟩
theorem ed1(y:Ed):cell y.pv 1=.int .i64 y.t:=rfl
theorem ed2(y:Ed):cell y.pv 2=.int .i64 y.c:=rfl
theorem Fg(n:Int):asInt .i64 (.int .i64 n)=some n:=by simp[asInt]
theorem G2(cX:PV×List PV×Int×List PV×Unit→Option PV)(t1:PV)(n:Nat)(o:nT)(x:Nd)(es:List Ed)(ht:∀z∈es,z.t<n)(hn:n<4294967296)(hx:x.len<4611686018427387904)(hxe:x.e<4611686018427387904)(hc:∀z∈es,z.c<4611686018427387904)(Ff:es.length<4611686018427387904):∀(m N k pu:Nat)(H:List Nd),m+k=es.length→m<N→pu+m<4294967296→H.length+m<4294967296→c7 (cV bC cX) N (t1,es.map Ed.pv,((es.length:Nat):Int),(k:Int),dJ n o,(pu:Int),.int .i64 x.n,.int .i64 x.len,.int .i64 x.e,nf H,())=cX (t1,dJ n o,((nk o x (es.drop k) pu H).1:Int),nf (nk o x (es.drop k) pu H).2,())
 |_,0,_,_,_,_,h,_,_=>by omega
 |0,N+1,k,pu,H,hk,hN,hpu,hH=>by
  simp only[c7];unfold cV;dsimp only;have hg:decide ((k:Int)<((es.length:Nat):Int))=false:=by simp;omega
  rw[hg,List.drop_eq_nil_of_le (by omega)];rfl
 |m+1,N+1,k,pu,H,hk,hN,hpu,hH=>by
  have ih:=G2 cX t1 n o x es ht hn hx hxe hc Ff m N (k+1);simp only[c7];generalize c7 (cV bC cX) N=rec at ih⊢;unfold cV;dsimp only;have Ze:k<es.length:=by omega
  have hg:decide ((k:Int)<((es.length:Nat):Int))=true:=by simp;omega
  obtain⟨z,hz⟩:∃z,es[k]?=some z:=⟨_,List.getElem?_eq_getElem Ze⟩;have hzm:z∈es:=List.mem_of_getElem? hz;have hzt:=ht z hzm;have Fo:(es.map Ed.pv)[k]?=some z.pv:=by rw[List.getElem?_map,hz];rfl
  have acy:es.drop k=z::es.drop (k+1):=by rw[List.drop_eq_getElem_cons Ze];have:=List.getElem?_eq_getElem Ze;rw[hz]at this;rw[Option.some.inj this]
  obtain⟨w,w1,w2,w3⟩:=acx z.t (o z.t);have ow:ah (z.t:Int) (dJ n o).length:=CR (by rw[pZ];exact hzt);rw[acy,nk];simp only[hg,if_true,aQ,Fo,U,ed1,ed2,Fg,if_pos ow,Int.toNat_natCast,qd o hzt,w1,w2];by_cases AM:(o z.t).isNone=true
  ·have e1:IntKind.i64.wrap ((x.len:Int)+(z.c:Int))=((x.len+z.c:Nat):Int):=by have:=hc z hzm;rw[bF (by omega) (by omega)];omega
   have e2:nf H++[PV.agg [.int .i64 z.t,.int .i64 ((x.len+z.c:Nat):Int),.int .i64 ((x.e+1:Nat):Int),.int .i64 pu]]=nf (H++[⟨z.t,x.len+z.c,x.e+1,pu⟩]):=by simp[nf,Nd.pv]
   have e3:(nf (H++[⟨z.t,x.len+z.c,x.e+1,pu⟩])).length=H.length+1:=by simp
   have e4:IntKind.i64.wrap (((H.length+1:Nat):Int)-1)=(H.length:Int):=by rw[bF (by omega) (by omega)];omega
   have gu:(H.length+1)*32≤an∧0<32:=by unfold an;omega
   simp only[AM,if_true,e1,ai (show x.e<9223372036854775807 by omega),e2,e3,e4,if_pos gu,ai (show pu<9223372036854775807 by omega),mf];refine(Q6 rec t1 (es.map Ed.pv) ((es.length:Nat):Int) (k:Int) (pu+1) (dJ n o) _ _ _ (H.length+1) rounds (H++[⟨z.t,x.len+z.c,x.e+1,pu⟩]) H.length (by omega) (by unfold rounds;omega) (by simp) (by simp;omega)).trans ?_;rw[ai (by omega)];rw[show up (H.length+1) (H++[⟨z.t,x.len+z.c,x.e+1,pu⟩]) H.length=push H ⟨z.t,x.len+z.c,x.e+1,pu⟩from rfl];refine ih (pu+1) _ (by omega) (by omega) (by omega) ?_;have:(push H ⟨z.t,x.len+z.c,x.e+1,pu⟩).length=H.length+1:=by
    unfold push;have key:∀(f:Nat)(a:List Nd)(i:Nat),(up f a i).length=a.length:=by
     intro f;induction f with
     |zero=>intro a i;rfl
     |succ f ih=>
      intro a i;unfold up;split
      ·rw[ih,jb]
      ·rfl
    rw[key];simp
   omega
  ·simp only[AM,Bool.false_eq_true,if_false,ai (show k<9223372036854775807 by omega)];exact ih pu H (by omega) (by omega) (by omega) (by omega)
end Go.Ab.Nw
namespace Go.Ab.Nw
set_option maxRecDepth 100000
set_option linter.unusedVariables false
set_option linter.unusedSimpArgs false
structure Gr(E:List Ed)(n:Nat)(ks vs:List PV):Prop where
 small:n<4294967296
 len:E.length<1073741824
 node:∀y∈E,y.f<n∧y.t<n∧y.c≤1073741824
 look:∀v:Nat,v<n→aa 3 (dH (.int .i64 v) (.rs 0 []) (ks.zip vs))=some ((E.filter fun y=>y.f==v).map Ed.pv)
section
variable {E:List Ed} {n:Nat} {ks vs:List PV}
def labelled(o:nT)(x:Nd):nT:=wE o x.n (some (x.len,x.e))
def KR(cX:PV×List PV×Int×List PV×Unit→Option PV)(E:List Ed)(n:Nat)(ks vs:List PV)(o:nT)(x:Nd)(pu:Nat)(H:List Nd):Option PV:=
 if(o x.n).isSome=true then cX (.rm 3 ks vs,dJ n o,(pu:Int),nf H,())
 else cX (.rm 3 ks vs,dJ n (labelled o x),((nk (labelled o x) x (E.filter fun y=>y.f==x.n) pu H).1:Int),nf (nk (labelled o x) x (E.filter fun y=>y.f==x.n) pu H).2,())
structure Sm(n:Nat)(E:List Ed)(x:Nd)(pu:Nat)(H:List Nd):Prop where
 node:x.n<n
 len:x.len<4611686018427387904
 e:x.e<4611686018427387904
 pu:pu≤1073741824
 H:H.length≤1073741824
theorem xc(hG:Gr E n ks vs)(cX:PV×List PV×Int×List PV×Unit→Option PV)(o:nT)(x:Nd)(pu:Nat)(H:List Nd)(hS:Sm n E x pu H)(A:Int→PV→Int→Option PV):((asInt .i64 (.int .i64 x.n)).bind fun n23=>if ah n23 (dJ n o).length then(dJ n o)[n23.toNat]?.bind fun e24=>(asInt .i64 (cell e24 2)).bind fun n25=>if decide (n25≥0)=true then cX (.rm 3 ks vs,dJ n o,(pu:Int),nf H,())else(asInt .i64 (.int .i64 x.n)).bind fun n26=>if ah n26 (dJ n o).length then(dJ n o)[n26.toNat]?.bind fun e27=>(asInt .i64 (.int .i64 x.n)).bind fun n28=>dP 3 (.rm 3 ks vs) (A n26 e27 n28) fun aa2 SU=>(aa 3 (dH (.int .i64 n28) (.rs 0 []) (aa2.zip SU))).bind fun V4=>bC.run (cV bC cX) (.rm 3 ks vs,V4,(V4.length:Int),0,(dJ n o).set n26.toNat (.agg [.int .i64 x.n,.int .i64 x.len,.int .i64 x.e]),(pu:Int),.int .i64 x.n,.int .i64 x.len,.int .i64 x.e,nf H,())else none else none)=KR cX E n ks vs o x pu H:=by
 have ow:ah (x.n:Int) (dJ n o).length:=CR (by rw[pZ];exact hS.node)
 obtain⟨w,w1,w2,w3⟩:=acx x.n (o x.n)
 simp only[Fg,U,if_pos ow,Int.toNat_natCast,qd o hS.node,w1,w3,dP,if_true,hG.look x.n hS.node,mf]
 unfold KR
 by_cases hs:(o x.n).isSome=true
 ·simp only[hs,if_true]
 ·simp only[hs,Bool.false_eq_true,if_false];have e1:(dJ n o).set x.n (.agg [.int .i64 x.n,.int .i64 x.len,.int .i64 x.e])=dJ n (labelled o x):=SS o (x.len,x.e) hS.node;rw[e1];have hl:(E.filter fun y=>y.f==x.n).length≤E.length:=List.length_filter_le ..;have bJ:∀z∈E.filter (fun y=>y.f==x.n),z∈E:=fun z hz=>(List.mem_filter.1 hz).1;have h1:=hG.len;have h2:=hS.pu;have h3:=hS.H;have:=G2 cX (.rm 3 ks vs) n (labelled o x) x (E.filter fun y=>y.f==x.n) (fun z hz=>(hG.node z (bJ z hz)).2.1) hG.small hS.len hS.e (fun z hz=>by have:=(hG.node z (bJ z hz)).2.2;omega) (by omega) (E.filter fun y=>y.f==x.n).length rounds 0 pu H (by omega) (by unfold rounds;omega) (by omega) (by omega);rw[List.drop_zero]at this;simpa using this
theorem V5{a:List Nd}{i:Nat}(h:2*i+1+1<a.length∧CP (dF a (2*i+1+1)) (dF a (2*i+1))=true):G0 a i=2*i+1+1:=if_pos h
theorem SV{a:List Nd}{i:Nat}(h:¬(2*i+1+1<a.length∧CP (dF a (2*i+1+1)) (dF a (2*i+1))=true)):G0 a i=2*i+1:=if_neg h
theorem G3(hG:Gr E n ks vs)(cX:PV×List PV×Int×List PV×Unit→Option PV)(o:nT)(x:Nd)(pu:Nat)(z1 z2 z3:Int):∀(f N:Nat)(a:List Nd)(i:Nat),a.length≤f+i→f<N→i<4294967296→Sm n E x pu a→c7 (dY bC cX) N ((i:Int),.rm 3 ks vs,(pu:Int),z1,z2,z3,.int .i64 x.n,.int .i64 x.len,.int .i64 x.e,dJ n o,nf a,())=KR cX E n ks vs o x pu (down f a i)
 |_,0,_,_,_,h,_,_=>by omega
 |0,N+1,a,i,hf,hN,hi,hS=>by
  simp only[c7];generalize c7 (dY bC cX) N=rec;unfold dY down;dsimp only;have e1:IntKind.i64.wrap (IntKind.i64.wrap (2*(i:Int))+1)=((2*i+1:Nat):Int):=by rw[bF (x:=2*(i:Int)) (by omega) (by omega),bF (by omega) (by omega)];omega
  have hg:decide (((2*i+1:Nat):Int)≥((nf a).length:Int))=true:=by simp;omega
  rw[e1,if_pos hg];exact xc hG cX o x pu a hS _
 |f+1,N+1,a,i,hf,hN,hi,hS=>by
  have ih:=G3 hG cX o x pu z1 z2 z3 f N;simp only[c7];generalize c7 (dY bC cX) N=rec at ih⊢;have e1:IntKind.i64.wrap (IntKind.i64.wrap (2*(i:Int))+1)=((2*i+1:Nat):Int):=by rw[bF (x:=2*(i:Int)) (by omega) (by omega),bF (by omega) (by omega)];omega
  have e2:IntKind.i64.wrap (((2*i+1:Nat):Int)+1)=((2*i+1+1:Nat):Int):=ai (by omega);unfold dY down;dsimp only;rw[e1,e2];by_cases hl:a.length≤2*i+1
  ·have hg:decide (((2*i+1:Nat):Int)≥((nf a).length:Int))=true:=by simp;omega
   rw[if_pos hg,if_pos hl];exact xc hG cX o x pu a hS _
  ·have hg:¬decide (((2*i+1:Nat):Int)≥((nf a).length:Int))=true:=by simp;omega
   rw[if_neg hg,if_neg hl];have hlen:=hS.H;have ny:i<a.length:=by omega
   have hi1:i<(nf a).length:=by simpa using ny
   obtain⟨k1,k2,_⟩:=V0 hl;have RQ:G0 a i<(nf a).length:=by simpa using k1
   have hk3:G0 a i<((nf a).set i (dF a (G0 a i)).pv).length:=by simpa using k1
   have G1:((nf a).set i (dF a (G0 a i)).pv)[G0 a i]?=some (dF a (G0 a i)).pv:=by rw[List.getElem?_set,if_neg (by omega),er k1]
   have fin:=ih (swp a i (G0 a i)) (G0 a i) (by rw[jb];omega) (by omega) (by omega) ⟨hS.node,hS.len,hS.e,hS.pu,by rw[jb];exact hS.H⟩;by_cases hc:2*i+1+1<a.length∧CP (dF a (2*i+1+1)) (dF a (2*i+1))=true
   ·have hk:=V5 hc;have hd:decide (((2*i+1+1:Nat):Int)<((nf a).length:Int))=true:=by simp;omega
    rw[hd];rw[hk]at RQ hk3 G1 fin k1⊢;simp only[cond_true,tH a pu (2*i+1+1) (2*i+1) (by omega) (by omega),hc.2,U,asBool,if_true,tH a pu (2*i+1+1) i k1 ny];by_cases hb:CP (dF a (2*i+1+1)) (dF a i)=true
    ·rw[if_pos hb]at*;simp only[hb,Bool.not_true,Bool.false_eq_true,if_false,if_pos (CR hi1),if_pos (CR RQ),if_pos (CR hk3),Int.toNat_natCast,er ny,er k1,U,ndE,G1,Is];exact fin
    ·rw[if_neg hb];have gB:(!CP (dF a (2*i+1+1)) (dF a i))=true:=by simpa using hb
     rw[if_pos gB];exact xc hG cX o x pu a hS _
   ·have hk:=SV hc;have hd:(bif decide (((2*i+1+1:Nat):Int)<((nf a).length:Int))then(aM [.rp [.fn 156 [],.rs 4 (nf a),.int .i64 (pu:Int)],.int .i64 ((2*i+1+1:Nat):Int),.int .i64 ((2*i+1:Nat):Int)]).bind fun r53=>(asBool r53).bind fun b54=>some b54 else some false)=some false:=by
     by_cases h2:2*i+1+1<a.length
     ·have hd:decide (((2*i+1+1:Nat):Int)<((nf a).length:Int))=true:=by simp;omega
      have hb:CP (dF a (2*i+1+1)) (dF a (2*i+1))=false:=by
       cases hb:CP (dF a (2*i+1+1)) (dF a (2*i+1))with
       |false=>rfl
       |true=>exact absurd ⟨h2,hb⟩ hc
      rw[hd,cond_true,tH a pu (2*i+1+1) (2*i+1) h2 (by omega),U,hb];rfl
     ·have hd:decide (((2*i+1+1:Nat):Int)<((nf a).length:Int))=false:=by simp;omega
      rw[hd];rfl
    rw[hd];rw[hk]at RQ hk3 G1 fin k1⊢;simp only[U,asBool,Bool.false_eq_true,if_false,tH a pu (2*i+1) i k1 ny];by_cases hb:CP (dF a (2*i+1)) (dF a i)=true
    ·rw[if_pos hb]at*;simp only[hb,Bool.not_true,Bool.false_eq_true,if_false,if_pos (CR hi1),if_pos (CR RQ),if_pos (CR hk3),Int.toNat_natCast,er ny,er k1,U,ndE,G1,Is];exact fin
    ·rw[if_neg hb];have gB:(!CP (dF a (2*i+1)) (dF a i))=true:=by simpa using hb
     rw[if_pos gB];exact xc hG cX o x pu a hS _
end
end Go.Ab.Nw
namespace Go.Ab.Nw
set_option maxRecDepth 100000
set_option linter.unusedVariables false
set_option linter.unusedSimpArgs false
section
variable {E:List Ed} {n:Nat} {ks vs:List PV}
theorem SX(hG:Gr E n ks vs)(cX:PV×List PV×Int×List PV×Unit→Option PV)(o:nT)(pu:Nat)(H:List Nd)(hS:∀x∈H,Sm n E x pu H):dZ bC (.rm 3 ks vs,dJ n o,(pu:Int),nf H,()) cX=if H.length=0 then some (.rs 3 (dJ n o))else KR cX E n ks vs o (dF H 0) pu (rest H):=by
 unfold dZ;dsimp only;by_cases h0:H.length=0
 ·have hg:(((nf H).length:Int)==0)=true:=by rw[List.length_map,h0];rfl
  rw[if_pos hg,if_pos h0]
 ·have hg:¬(((nf H).length:Int)==0)=true:=by simp;intro h;exact h0 (by rw[h];rfl)
  rw[if_neg hg,if_neg h0];have hx:dF H 0∈H:=Bj.2 ⟨0,by omega,rfl⟩;have hsm:=hS _ hx;have hH:=hsm.H;have hl:((nf H).length:Int)=(H.length:Int):=by simp
  have e1:IntKind.i64.wrap ((H.length:Int)-1)=((H.length-1:Nat):Int):=by rw[bF (by omega) (by omega)];omega
  have i0:ah (0:Int) (nf H).length:=CR (i:=0) (by simp;omega);have hl1:H.length-1<(nf H).length:=by simp;omega
  have hl3:H.length-1<((nf H).set 0 (dF H (H.length-1)).pv).length:=by simp;omega
  have g0:(nf H)[0]?=some (dF H 0).pv:=er (by omega);have gl:(nf H)[H.length-1]?=some (dF H (H.length-1)).pv:=er (by omega);have g3:∃q,((nf H).set 0 (dF H (H.length-1)).pv)[H.length-1]?=some q:=⟨_,List.getElem?_eq_getElem hl3⟩;obtain⟨q,g3⟩:=g3;have z0:Int.toNat 0=0:=rfl;have jX:(0:Int)≤0∧0≤((H.length-1:Nat):Int)∧((H.length-1:Nat):Int)≤(((((nf H).set 0 (dF H (H.length-1)).pv).set (H.length-1) (dF H 0).pv).length:Nat):Int):=by refine⟨by omega,by omega,?_⟩;simp only[List.length_set,List.length_map];omega
  simp only[hl,e1,if_pos i0,z0,g0,U,if_pos (CR hl1),Int.toNat_natCast,gl,ndE,if_pos (CR hl3),g3,and_true,if_pos jX,Nat.sub_zero];simp only[nd0,nd1,nd2,Is,←List.map_take,mf];rw[if_pos (by refine⟨by omega,by omega,?_⟩;simp only[List.length_map,jb];omega)];have:=G3 hG cX o (dF H 0) pu 0 0 0 (H.length+1) rounds (O1 H) 0 (by simp[O1];omega) (by unfold rounds;omega) (by omega) ⟨hsm.node,hsm.len,hsm.e,hsm.pu,by simp[O1];omega⟩;exact this
theorem DI.small{s B:Nat}{o:nT}{pu:Nat}{H:List Nd}(h:DI E n s B o pu H)(hG:Gr E n ks vs)(hB:B≤1073741824)(hn:n≤64):∀x∈H,Sm n E x pu H:=fun x hx=>by have h1:=h.V1 x hx;have h2:=Q5 n o;have h3:B*FE n o≤1073741824*64:=Nat.mul_le_mul hB (by omega);have h4:=h.VE;have h5:=h.aa0;have h6:=hG.len;exact⟨h.node x hx,by omega,by omega,by omega,by omega⟩
theorem SY(hG:Gr E n ks vs){s B:Nat}(hs:s<n)(hB:B≤1073741824)(hEB:∀y∈E,y.c≤B)(hn:n≤64):∃o pu,DI E n s B o pu []∧bC.run (dZ bC) (.rm 3 ks vs,dJ n (fun _=>none),1,[PV.agg [.int .i64 s,.int .i64 0,.int .i64 0,.int .i64 0]],())=some (.rs 3 (dJ n o)):=by
 have hE:∀y∈E,y.f<n∧y.t<n∧y.c≤B:=fun y hy=>⟨(hG.node y hy).1,(hG.node y hy).2.1,hEB y hy⟩;have hlen:=hG.len;obtain⟨a,r,hI,⟨h0,hr⟩,nu⟩:=SR (body:=dZ bC) (A:=nT×Nat×List Nd) (fun a=>(PV.rm 3 ks vs,dJ n a.1,(a.2.1:Int),nf a.2.2,())) (fun a=>DI E n s B a.1 a.2.1 a.2.2) (fun a=>a.2.2.length+vd E a.1) (fun a r=>a.2.2=[]∧r=some (.rs 3 (dJ n a.1))) (fun a hI cX=>by
  obtain⟨o,pu,H⟩:=a;have hI:DI E n s B o pu H:=hI;dsimp only;rw[SX hG cX o pu H (hI.small hG hB hn)];by_cases hH:H.length=0
  ·right;rw[if_pos hH];exact⟨_,⟨List.eq_nil_of_length_eq_zero hH,rfl⟩,rfl⟩
  ·left;rw[if_neg hH];have cB:0<H.length:=by omega
   unfold KR;by_cases rM:(o (dF H 0).n).isSome=true
   ·rw[if_pos rM];refine⟨(o,pu,rest H),hI.skip cB rM,?_,rfl⟩;have:=(Iq hI.hp cB).2.1;dsimp only;omega
   ·rw[if_neg rM];have AM:o (dF H 0).n=none:=by simpa using rM
    obtain⟨s1,s2⟩:=hI.settle hE cB AM;exact⟨(_,_,_),s1,s2,rfl⟩) rounds ((fun _=>none),1,[⟨s,0,0,0⟩]) (DI.start hs) (by
  have:vd E (fun _=>none)≤E.length:=List.countP_le_length;simp only[List.length_cons,List.length_nil];unfold rounds;omega)
 obtain⟨o,pu,H⟩:=a;dsimp only at h0 hr hI;subst h0;refine⟨o,pu,hI,?_⟩;rw[mf,←hr,←nu];rfl
theorem SZ(hG:Gr E n ks vs){s B:Nat}(hs:s<n)(hB:B≤1073741824)(hEB:∀y∈E,y.c≤B)(hn:n≤64):∃o pu,DI E n s B o pu []∧eY [.int .i64 n,.rm 3 ks vs,.int .i64 s]=some (.rs 3 (dJ n o)):=by
 obtain⟨o,pu,hI,h⟩:=SY hG hs hB hEB hn;refine⟨o,pu,hI,?_⟩;have gu:(0:Int)≤(n:Int)∧(n:Int)≤(n:Int)∧n*24≤an∧0<24∧0<3:=by refine⟨by omega,by omega,?_,by omega,by omega⟩;unfold an;omega
 simp only[eY,oY,Fg,U,dP,if_true,if_pos gu,Int.toNat_natCast,List.length_replicate];have fill:∀k,k≤n→((List.range n).map fun v=>if v<k then sb v none else PV.agg [.int .i64 0,.int .i64 0,.int .i64 0]).length=n:=fun k _=>by simp
 refine bT (fun k=>(PV.rm 3 ks vs,(s:Int),(n:Int),(k:Int),(List.range n).map (fun v=>if v<k then sb v none else PV.agg [.int .i64 0,.int .i64 0,.int .i64 0]),())) n (fun k hk rec=>?_) (fun rec=>?_) (by unfold rounds;omega) ?_
 ·unfold gX;dsimp only;have hg:decide ((k:Int)<(n:Int))=true:=by simp;omega
  have ow:ah (k:Int) ((List.range n).map fun v=>if v<k then sb v none else PV.agg [.int .i64 0,.int .i64 0,.int .i64 0]).length:=CR (by rw[fill k (by omega)];exact hk);have er:((List.range n).map fun v=>if v<k then sb v none else PV.agg [.int .i64 0,.int .i64 0,.int .i64 0])[k]?=some (PV.agg [.int .i64 0,.int .i64 0,.int .i64 0]):=by simp[hk]
  have rM:((List.range n).map fun v=>if v<k then sb v none else PV.agg [.int .i64 0,.int .i64 0,.int .i64 0]).set k (.agg [.int .i64 k,.int .i64 (-1),.int .i64 (-1)])=(List.range n).map fun v=>if v<k+1 then sb v none else PV.agg [.int .i64 0,.int .i64 0,.int .i64 0]:=by
   apply List.ext_getElem?;intro i;rw[List.getElem?_set];by_cases e:k=i
   ·subst e;simp[hk,sb]
   ·rw[if_neg e];by_cases hi:i<n
    ·simp only[List.getElem?_map,List.getElem?_range hi,Option.map_some];by_cases h1:i<k
     ·rw[if_pos h1,if_pos (by omega)]
     ·rw[if_neg h1,if_neg (by omega)]
    ·rw[List.getElem?_eq_none (by simp;omega),List.getElem?_eq_none (by simp;omega)]
  rw[if_pos hg,if_pos ow,Int.toNat_natCast,er,U,rM,ai (by omega)]
 ·unfold gX;dsimp only;have hg:¬decide ((n:Int)<(n:Int))=true:=by simp
  have e0:IntKind.i64.wrap ((1:Nat)-1:Int)=0:=by decide
  have e1:IntKind.i64.wrap (0+1)=1:=by decide
  have MC:((List.range n).map fun v=>if v<n then sb v none else PV.agg [.int .i64 0,.int .i64 0,.int .i64 0])=dJ n (fun _=>none):=by unfold dJ;apply List.map_congr_left;intro v hv;rw[if_pos (List.mem_range.1 hv)]
  rw[if_neg hg,MC,e1];refine Eq.trans ?_ h;have first:∀N,c7 (gY bC) (N+1) (IntKind.i64.wrap (((1:Nat):Int)-1),PV.rm 3 ks vs,1,dJ n (fun _=>none),[PV.agg [.int .i64 s,.int .i64 0,.int .i64 0,.int .i64 0]],())=bC.run (dZ bC) (.rm 3 ks vs,dJ n (fun _=>none),1,[PV.agg [.int .i64 s,.int .i64 0,.int .i64 0,.int .i64 0]],()):=fun N=>by
   simp only[c7];generalize c7 (gY bC) N=rec;unfold gY;dsimp only;have hg:decide (IntKind.i64.wrap (((1:Nat):Int)-1)>0)=false:=by decide
   rw[hg,cond_false,U,if_neg (by simp)]
  exact first 18446744073709551615
 ·congr 1;have:((List.range n).map fun v=>if v<0 then sb v none else PV.agg [.int .i64 0,.int .i64 0,.int .i64 0])=List.replicate n (PV.agg [.int .i64 0,.int .i64 0,.int .i64 0]):=by
   apply List.ext_getElem?;intro i;by_cases hi:i<n
   ·simp[hi,List.getElem?_replicate]
   ·rw[List.getElem?_eq_none (by simp;omega),List.getElem?_eq_none (by simp;omega)]
  rw[this];rfl
end
end Go.Ab.Nw
namespace Go.Ab.Nw
set_option maxRecDepth 100000
set_option linter.unusedVariables false
set_option linter.unusedSimpArgs false
theorem Yp{S R:Type}{body:S→(S→Option R)→Option R}{s:S}{r:Option R}(h:∀rec,body s rec=r):bC.run body s=r:=bT (fun _=>s) 0 (fun k hk=>by omega) h (by unfold rounds;omega) rfl
def sc(n k:Nat)(F:Nat→PV)(z:PV):List PV:=(List.range n).map fun v=>if v<k then F v else z
theorem KM(n k:Nat)(F:Nat→PV)(z:PV):(sc n k F z).length=n:=by simp[sc]
theorem KN{n k:Nat}{F:Nat→PV}{z:PV}(hk:k<n):(sc n k F z)[k]?=some z:=by simp[sc,hk]
theorem KO{n k:Nat}{F:Nat→PV}{z:PV}(hk:k<n):(sc n k F z).set k (F k)=sc n (k+1) F z:=by
 apply List.ext_getElem?;intro i;rw[List.getElem?_set];by_cases e:k=i
 ·subst e;simp[sc,hk]
 ·rw[if_neg e];unfold sc;by_cases hi:i<n
  ·simp only[List.getElem?_map,List.getElem?_range hi,Option.map_some];by_cases h1:i<k
   ·rw[if_pos h1,if_pos (by omega)]
   ·rw[if_neg h1,if_neg (by omega)]
  ·rw[List.getElem?_eq_none (by simp;omega),List.getElem?_eq_none (by simp;omega)]
theorem G4(n:Nat)(F:Nat→PV)(z:PV):sc n 0 F z=List.replicate n z:=by
 unfold sc;apply List.ext_getElem?;intro i;by_cases hi:i<n
 ·simp[hi,List.getElem?_replicate]
 ·rw[List.getElem?_eq_none (by simp;omega),List.getElem?_eq_none (by simp;omega)]
theorem KP(n:Nat)(F:Nat→PV)(z:PV):sc n n F z=(List.range n).map F:=by unfold sc;apply List.map_congr_left;intro v hv;rw[if_pos (List.mem_range.1 hv)]
def It:Lab→Int
 |none=> -1
 |some (L,_)=>L
theorem afT(v:Nat)(l:Lab):asInt .i64 (cell (sb v l) 1)=some (It l):=by
 cases l with
 |none=>rfl
 |some p=>obtain⟨L,e⟩:=p;rfl
theorem O2(n:Nat)(hn:n≤64)(o:nT):fT [.rs 3 (dJ n o)]=some (.rs 1 ((List.range n).map fun v=>.int .i64 (It (o v)))):=by
 have e0:aa 3 (.rs 3 (dJ n o))=some (dJ n o):=by simp[aa]
 have gu:(0:Int)≤((n:Nat):Int)∧((n:Nat):Int)≤((n:Nat):Int)∧n*8≤an∧0<8∧0<1:=by refine⟨by omega,by omega,?_,by omega,by omega⟩;unfold an;omega
 simp only[fT,nD,e0,U,pZ,Int.toNat_natCast,if_pos gu];refine bT (fun k=>(dJ n o,(n:Int),(k:Int),sc n k (fun v=>.int .i64 (It (o v))) (.int .i64 0),())) n (fun k hk rec=>?_) (fun rec=>?_) (by unfold rounds;omega) ?_
 ·unfold kN;dsimp only;have hg:decide ((k:Int)<(n:Int))=true:=by simp;omega
  rw[if_pos hg,aQ,qd o hk,U,afT,U,if_pos (CR (by rw[KM];exact hk)),Int.toNat_natCast,KN hk,U,ai (by omega)];rw[KO (F:=fun v=>PV.int .i64 (It (o v))) hk]
 ·unfold kN;dsimp only;rw[if_neg (by simp),KP]
 ·rw[G4];rfl
theorem EB(i n:Nat)(h:i<n):dx [.int .i64 i,.rp [.int .i64 n]]=some (.bool false):=by
 have h1:decide ((i:Int)<0)=false:=by simp
 have h2:decide ((i:Int)≥(n:Int))=false:=by simp;omega
 simp only[dx,nB,Fg,U,h1,cond_false,h2]
theorem ed0(y:Ed):cell y.pv 0=.int .i64 y.f:=rfl
theorem V6(E:List Ed)(n:Nat)(hn:n≤64)(hE:E.length≤4096)(h:∀y∈E,y.f<n∧y.t<n∧y.c≤1073741824):iD [.int .i64 n,.rs 3 (E.map Ed.pv),.rs 0 []]=some (.int .i64 0):=by
 have e0:aa 3 (.rs 3 (E.map Ed.pv))=some (E.map Ed.pv):=by simp[aa]
 have e1:aa 1 (.rs 0 [])=some []:=by simp[aa]
 have h1:decide ((n:Int)<0)=false:=by simp
 have h2:decide ((n:Int)>64)=false:=by simp;omega
 have h3:¬decide (((E.map Ed.pv).length:Int)>4096)=true:=by simp;omega
 simp only[iD,qL,Fg,e0,e1,U,h1,h2,cond_false,Bool.false_eq_true,if_false,if_neg h3];refine bT (fun k=>(([]:List PV),E.map Ed.pv,((E.map Ed.pv).length:Int),(k:Int),(n:Int),())) E.length (fun k hk rec=>?_) (fun rec=>?_) (by unfold rounds;omega) rfl
 ·unfold mX;dsimp only;have hg:decide ((k:Int)<((E.map Ed.pv).length:Int))=true:=by simp;omega
  obtain⟨z,hz⟩:∃z,E[k]?=some z:=⟨_,List.getElem?_eq_getElem hk⟩;have Fo:(E.map Ed.pv)[k]?=some z.pv:=by rw[List.getElem?_map,hz];rfl
  obtain⟨a1,a2,a3⟩:=h z (List.mem_of_getElem? hz);have h4:decide ((z.c:Int)<0)=false:=by simp
  have h5:decide ((z.c:Int)>1073741824)=false:=by simp;omega
  simp only[hg,if_true,aQ,Fo,U,ed0,ed1,ed2,Fg,EB _ _ a1,EB _ _ a2,asBool,cond_false,Bool.false_eq_true,if_false,h4,h5,ai (show k<9223372036854775807 by omega)]
 ·unfold mX;dsimp only;rw[if_neg (by simp)];refine Yp fun rec=>?_;unfold sd;dsimp only;rw[if_neg (by simp)]
abbrev Iu:=List (Nat×List Ed)
def Iv(z:Ed):Iu→Iu
 |[]=>[(z.f,[z])]
 |(a,l)::r=>if z.f=a then(a,l++[z])::r else(a,l)::Iv z r
def oM(v:Nat):Iu→List Ed
 |[]=>[]
 |(a,l)::r=>if v=a then l else oM v r
def G5(m:Iu):List (PV×PV):=m.map fun x=>(.int .i64 x.1,.pG 3 (x.2.map Ed.pv))
theorem V7(a b:Nat):dK (PV.int .i64 a).cells (PV.int .i64 b).cells=decide (a=b):=by
 have:((a:Int)==(b:Int))=decide (a=b):=by
  by_cases h:a=b
  ·simp[h]
  ·rw[decide_eq_false h,beq_eq_false_iff_ne];omega
 simp only[PV.cells,dK,peq,Bool.and_true,this]
theorem acz(v:Nat):∀m:Iu,I5 3 (.int .i64 v) (G5 m)=some ((oM v m).map Ed.pv)
 |[]=>rfl
 |(a,l)::r=>by
  have ih:=acz v r;unfold G5 at ih⊢;simp only[List.map_cons,I5,oM,V7];by_cases h:v=a
  ·simp[h,eT]
  ·simp only[h,decide_false,Bool.false_eq_true,if_false];exact ih
theorem Q7(z:Ed):∀m:Iu,eS (.int .i64 z.f) (.pG 3 ((oM z.f m).map Ed.pv++[z.pv])) (rQ (.int .i64 z.f) (G5 m))=G5 (Iv z m)
 |[]=>by simp[G5,rQ,eS,Iv,oM]
 |(a,l)::r=>by
  have ih:=Q7 z r;unfold G5 at ih⊢;simp only[List.map_cons,rQ,Iv,oM,V7];by_cases h:z.f=a
  ·subst h;simp[eS,V7]
  ·simp only[h,decide_false,Bool.false_eq_true,if_false,eS,V7,List.map_cons];rw[ih]
theorem G6(v:Nat)(z:Ed):∀m:Iu,oM v (Iv z m)=oM v m++(if z.f=v then[z]else[])
 |[]=>by
  simp only[Iv,oM];by_cases h:v=z.f
  ·simp[h]
  ·rw[if_neg h,if_neg fun e=>h e.symm];rfl
 |(a,l)::r=>by
  simp only[Iv];by_cases h:z.f=a
  ·subst h;simp only[if_true,oM];by_cases hv:v=z.f
   ·simp[hv]
   ·rw[if_neg hv,if_neg hv,if_neg fun e=>hv e.symm];simp
  ·rw[if_neg h];simp only[oM];by_cases hv:v=a
   ·subst hv;rw[if_pos rfl,if_pos rfl,if_neg h];simp
   ·rw[if_neg hv,if_neg hv];exact G6 v z r
def xm(E:List Ed):Iu:=E.foldl (fun m z=>Iv z m) []
theorem G7(E:List Ed)(z:Ed):xm (E++[z])=Iv z (xm E):=by simp[xm]
theorem G8(v:Nat)(E:List Ed):oM v (xm E)=E.filter fun y=>y.f==v:=by
 rw[←List.reverse_reverse E];induction E.reverse with
 |nil=>rfl
 |cons z l ih=>
  rw[List.reverse_cons,G7,G6,ih,List.filter_append];by_cases h:z.f=v
  ·simp[h]
  ·simp[h]
theorem acA(v:Nat):∀m:Iu,aa 3 (dH (.int .i64 v) (.rs 0 []) (((G5 m).map fun x=>x.1).zip ((G5 m).map fun x=>x.2.np)))=some ((oM v m).map Ed.pv)
 |[]=>by simp[G5,dH,aa,oM]
 |(a,l)::r=>by
  have ih:=acA v r;unfold G5 at ih⊢;simp only[List.map_cons,List.zip_cons_cons,dH,V7,oM];by_cases h:v=a
  ·simp[h,PV.np,aa]
  ·simp only[h,decide_false,Bool.false_eq_true,if_false];exact ih
theorem Iw(E:List Ed)(hE:E.length≤4096):eR [.rs 3 (E.map Ed.pv),.bool false]=some (.rm 3 ((G5 (xm E)).map fun x=>x.1) ((G5 (xm E)).map fun x=>x.2.np)):=by
 have e0:aa 3 (.rs 3 (E.map Ed.pv))=some (E.map Ed.pv):=by simp[aa]
 simp only[eR,lM,e0,U,asBool];refine bT (fun k=>(false,E.map Ed.pv,((E.map Ed.pv).length:Int),(k:Int),G5 (xm (E.take k)),())) E.length (fun k hk rec=>?_) (fun rec=>?_) (by unfold rounds;omega) (by simp[xm,G5])
 ·unfold jy;dsimp only;have hg:decide ((k:Int)<((E.map Ed.pv).length:Int))=true:=by simp;omega
  obtain⟨z,hz⟩:∃z,E[k]?=some z:=⟨_,List.getElem?_eq_getElem hk⟩;have Fo:(E.map Ed.pv)[k]?=some z.pv:=by rw[List.getElem?_map,hz];rfl
  have htk:E.take (k+1)=E.take k++[z]:=by rw[List.take_add_one,hz];rfl
  have hce:PV.agg [cell z.pv 0,cell z.pv 1,cell z.pv 2]=z.pv:=rfl;have hlen:((oM z.f (xm (E.take k))).map Ed.pv++[z.pv]).length*24≤an∧0<24:=by
   have:(oM z.f (xm (E.take k))).length≤E.length:=by rw[G8];exact Nat.le_trans (List.length_filter_le ..) (by rw[List.length_take];omega)
   simp only[List.length_append,List.length_map,List.length_cons,List.length_nil];unfold an;omega
  rw[if_pos hg,aQ,Fo,U,if_neg (by simp)];have afU:PV.agg [.int .i64 z.f,cell z.pv 1,cell z.pv 2]=z.pv:=rfl;simp only[ed0,Fg,U,acz,afU,if_pos hlen];rw[Q7,htk,G7,ai (by omega)]
 ·unfold jy;dsimp only;rw[if_neg (by simp),List.take_length]
theorem V8(E:List Ed)(n:Nat)(hn:n≤64)(hE:E.length≤4096)(h:∀y∈E,y.f<n∧y.t<n∧y.c≤1073741824):Gr E n ((G5 (xm E)).map fun x=>x.1) ((G5 (xm E)).map fun x=>x.2.np):=⟨by omega,by omega,h,fun v _=>by rw[acA,G8]⟩
end Go.Ab.Nw
