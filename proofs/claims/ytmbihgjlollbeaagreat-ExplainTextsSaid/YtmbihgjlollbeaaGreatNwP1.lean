import Derived.Test.YtmbihgjlollbeaaGreatAbLib
import Derived.Test.YtmbihgjlollbeaaGreatSh6
namespace Go.Ab.Nw
section
variable (w:Nat→Nat→Nat→Prop)
def Cx:Nat→Nat→Nat→Nat→Prop
 |0,i,j,L=>w i j L
 |k+1,i,j,L=>Cx k i j L∨∃A B,Cx k i k A∧Cx k k j B∧L=A+B
inductive jX:Nat→Nat→Nat→Prop
 |EK {i j c:Nat}:w i j c→jX i j c
 |snoc {i m j A c:Nat}:jX i m A→w m j c→jX i j (A+c)
end
section
variable {w:Nat→Nat→Nat→Prop}
variable{i j L:Nat}
theorem Cx.up{k:Nat}(h:Cx w k i j L):Cx w (k+1) i j L:=.inl h
theorem Cx.le{k k':Nat}(hk:k≤k')(h:Cx w k i j L):Cx w k' i j L:=by
 induction hk with
 |refl=>exact h
 |step _ ih=>exact ih.up
theorem Ag:∀(k:Nat){m i j A B:Nat},m<k→Cx w k i m A→Cx w k m j B→∃C,C≤A+B∧Cx w k i j C
 |0,_,_,_,_,_,h,_,_=>by omega
 |k+1,m,i,j,A,B,h,ha,hb=>by
  by_cases hm:m=k
  ·subst hm;have h1:∃A',A'≤A∧Cx w m i m A':=by
    rcases ha with ha|⟨X,Y,x,y,e⟩
    ·exact⟨A,aiJ _,ha⟩
    ·exact⟨X,by omega,x⟩
   have h2:∃B',B'≤B∧Cx w m m j B':=by
    rcases hb with hb|⟨X,Y,x,y,e⟩
    ·exact⟨B,aiJ _,hb⟩
    ·exact⟨Y,by omega,y⟩
   obtain⟨A',a1,a2⟩:=h1;obtain⟨B',b1,b2⟩:=h2;exact⟨A'+B',by omega,.inr ⟨A',B',a2,b2,rfl⟩⟩
  ·have bT:m<k:=by omega
   rcases ha with ha|⟨X,Y,x,y,e⟩
   ·rcases hb with hb|⟨X',Y',x',y',e'⟩
    ·obtain⟨C,c1,c2⟩:=Ag k bT ha hb;exact⟨C,c1,.inl c2⟩
    ·obtain⟨C,c1,c2⟩:=Ag k bT ha x';exact⟨C+Y',by omega,.inr ⟨C,Y',c2,y',rfl⟩⟩
   ·rcases hb with hb|⟨X',Y',x',y',e'⟩
    ·obtain⟨C,c1,c2⟩:=Ag k bT y hb;exact⟨X+C,by omega,.inr ⟨X,C,x,c2,rfl⟩⟩
    ·exact⟨X+Y',by omega,.inr ⟨X,Y',x,y',rfl⟩⟩
theorem jX.join{m A B:Nat}(h1:jX w i m A)(h2:jX w m j B):jX w i j (A+B):=by
 induction h2 with
 |EK h=>exact .snoc h1 h
 |snoc _ h ih=>rw[←ajg];exact .snoc ih h
theorem Cx.walk:∀{k i j L:Nat},Cx w k i j L→jX w i j L
 |0,_,_,_,h=>.EK h
 |k+1,i,j,L,.inl h=>Cx.walk (k:=k) h
 |k+1,i,j,L,.inr ⟨A,B,h1,h2,e⟩=>by rw[e];exact(Cx.walk (k:=k) h1).join (Cx.walk (k:=k) h2)
theorem jX.via{n:Nat}(hn:∀i j c,w i j c→i<n)(h:jX w i j L):∃C,C≤L∧Cx w n i j C:=by
 induction h with
 |EK h=>exact⟨_,aiJ _,Cx.le (alo _) (show Cx w 0 _ _ _ from h)⟩
 |snoc _ h ih=>obtain⟨C,c1,c2⟩:=ih;obtain⟨D,d1,d2⟩:=Ag n (hn _ _ _ h) c2 (Cx.le (alo _) (show Cx w 0 _ _ _ from h));exact⟨D,by omega,d2⟩
variable{w':Nat→Nat→Nat→Prop}
theorem jX.mono(hw:∀i j c,w i j c→w' i j c)(h:jX w i j L):jX w' i j L:=by
 induction h with
 |EK h=>exact .EK (hw _ _ _ h)
 |snoc _ h ih=>exact .snoc ih (hw _ _ _ h)
theorem jX.leq(hw:∀i j c,w i j c→∃c',c'≤c∧w' i j c')(h:jX w i j L):∃L',L'≤L∧jX w' i j L':=by
 induction h with
 |EK h=>obtain⟨c',h1,h2⟩:=hw _ _ _ h;exact⟨c',h1,.EK h2⟩
 |snoc _ h ih=>obtain⟨c',h1,h2⟩:=hw _ _ _ h;obtain⟨L',l1,l2⟩:=ih;exact⟨L'+c',by omega,.snoc l2 h2⟩
def Rj(w:Nat→Nat→Nat→Prop)(i j:Nat)(o:Option Nat):Prop:=match o with
 |some L=>jX w i j L∧∀L',jX w i j L'→L≤L'
 |none=>∀L',¬jX w i j L'
theorem Rj.unique{o o':Option Nat}(h:Rj w i j o)(h':Rj w i j o'):o=o':=by
 cases o with
 |none=>cases o' with
  |none=>rfl
  |some L=>exact absurd h'.1 (h L)
 |some L=>cases o' with
  |none=>exact absurd h.1 (h' L)
  |some L'=>rw[Nat.le_antisymm (h.2 _ h'.1) (h'.2 _ h.1)]
structure Fw(w:Nat→Nat→Nat→Prop)(inf:Nat)(n:Nat)(d:Nat→Nat→Nat):Prop where
 top:∀i j,i<n→j<n→d i j≤inf
 real:∀i j,i<n→j<n→d i j<inf→jX w i j (d i j)
def qM(w:Nat→Nat→Nat→Prop)(k i j:Nat)(x:Nat):Prop:=∀L,Cx w k i j L→x≤L
variable{d:Nat→Nat→Nat}
theorem Yc{inf n k:Nat}(h:Fw w inf n d)(hi:i<n)(hj:j<n)(hk:k<n){x:Nat}(hx:x=min (d i j) (d i k+d k j)){d':Nat→Nat→Nat}(hd:∀a b,d' a b=if a=i∧b=j then x else d a b):Fw w inf n d'∧(∀a b,d' a b≤d a b)∧(qM w k i k (d i k)→qM w k k j (d k j)→qM w k i j (d i j)→qM w (k+1) i j (d' i j)):=by
 refine⟨⟨fun a b ha hb=>?_,fun a b ha hb bT=>?_⟩,fun a b=>?_,fun h1 h2 h3 L hL=>?_⟩
 ·rw[hd];split
  ·have:=h.top i j hi hj;omega
  ·exact h.top a b ha hb
 ·rw[hd]at bT⊢;split
  ·rename_i e;rw[AI e]at bT;obtain⟨rfl,rfl⟩:=e;by_cases hm:d a b≤d a k+d k b
   ·rw[show x=d a b by omega]at bT⊢;exact h.real a b ha hb bT
   ·have e2:x=d a k+d k b:=by omega
    rw[e2]at bT⊢;exact(h.real a k ha hk (by omega)).join (h.real k b hk hb (by omega))
  ·rename_i e;rw[By e]at bT;exact h.real a b ha hb bT
 ·rw[hd];split
  ·rename_i e;obtain⟨rfl,rfl⟩:=e;omega
  ·exact aiJ _
 ·rw[hd,AI ⟨rfl,rfl⟩];rcases hL with hL|⟨A,B,a1,a2,e⟩
  ·have:=h3 _ hL;omega
  ·have:=h1 _ a1;have:=h2 _ a2;omega
theorem Yd{inf n:Nat}(hn:∀i j c,w i j c→i<n)(h:Fw w inf n d)(hi:i<n)(hj:j<n)(hb:qM w n i j (d i j))(od:∀L,(∀L',jX w i j L'→L≤L')→jX w i j L→L<inf):Rj w i j (if d i j<inf then some (d i j)else none):=by
 have low:∀L,jX w i j L→d i j≤L:=fun L hL=>by obtain⟨C,c1,c2⟩:=hL.via hn;exact ajq (hb C c2) c1
 split
 ·rename_i bT;exact⟨h.real i j hi hj bT,low⟩
 ·rename_i Fi;intro L hL;have key:∀m,(∃L,L≤m∧jX w i j L)→∃L,jX w i j L∧∀L',jX w i j L'→L≤L':=by
   intro m;induction m with
   |zero=>rintro⟨L,hl,hw⟩;exact⟨L,hw,fun L' _=>by omega⟩
   |succ m ih=>
    rintro⟨L,hl,hw⟩;by_cases he:∃L,L≤m∧jX w i j L
    ·exact ih he
    ·refine⟨L,hw,fun L' hw'=>?_⟩;have:¬L'≤m:=fun hle=>he ⟨L',hle,hw'⟩;omega
  obtain⟨L0,h1,h2⟩:=key L ⟨L,aiJ _,hL⟩;have:=od L0 h2 h1;have:=low L0 h1;omega
end
structure Nd where
 n:Nat
 len:Nat
 e:Nat
 num:Nat
 deriving DecidableEq,Inhabited
def CT(a b:Nd):Bool:=decide (a.len<b.len∨(a.len=b.len∧(a.e<b.e∨(a.e=b.e∧a.num<b.num))))
def tX(a b:Nd):Prop:=CT b a=false
theorem Rk(a b:Nd):CT a b=true↔(a.len<b.len∨(a.len=b.len∧(a.e<b.e∨(a.e=b.e∧a.num<b.num)))):=by simp[CT]
theorem Ah(a b:Nd):tX a b↔¬(b.len<a.len∨(b.len=a.len∧(b.e<a.e∨(b.e=a.e∧b.num<a.num)))):=by unfold tX;rw[←Rk];simp
theorem Bd(a:Nd):tX a a:=by rw[Ah];omega
theorem tY{a b c:Nd}(h:tX a b)(k:tX b c):tX a c:=by rw[Ah]at*;omega
theorem wy{a b:Nd}(h:CT a b=true):tX a b:=by rw[Ah];rw[Rk]at h;omega
theorem VS{a b:Nd}(h:tX a b):a.len≤b.len:=by rw[Ah]at h;omega
def dB(a:List Nd)(i:Nat):Nd:=a.getD i default
variable{a:List Nd}{i:Nat}
theorem IA(h:i<a.length):a[i]?=some (dB a i):=by simp[dB,List.getD,h]
def swp(a:List Nd)(i k:Nat):List Nd:=(a.set i (dB a k)).set k (dB a i)
@[simp] theorem ij(a:List Nd)(i k:Nat):(swp a i k).length=a.length:=by simp[swp]
theorem VT(a:List Nd)(i j:Nat)(x:Nd)(h:i<a.length):dB (a.set i x) j=if j=i then x else dB a j:=by
 unfold dB List.getD;rw[ai9];by_cases e:i=j
 ·subst e;simp[h]
 ·rw[By e,By fun h=>e h.symm]
theorem mo(a:List Nd)(i k j:Nat)(hi:i<a.length)(hk:k<a.length):dB (swp a i k) j=if j=k then dB a i else if j=i then dB a k else dB a j:=by unfold swp;rw[VT _ _ _ _ (by simpa using hk),VT _ _ _ _ hi]
theorem Be{x:Nd}:x∈a↔∃i,i<a.length∧dB a i=x:=by
 rw[ajd];constructor
 ·rintro⟨i,h⟩;have hi:=(AT.1 h).1;rw[IA hi]at h;exact⟨i,hi,by simpa using h⟩
 ·rintro⟨i,hi,h⟩;exact⟨i,by rw[IA hi,h]⟩
theorem CU{k:Nat}(hi:i<a.length)(hk:k<a.length)(x:Nd):x∈swp a i k↔x∈a:=by
 rw[Be,Be];constructor
 ·rintro⟨j,hj,h⟩;rw[mo _ _ _ _ hi hk]at h;split at h
  ·exact⟨i,hi,h⟩
  ·split at h
   ·exact⟨k,hk,h⟩
   ·exact⟨j,by simpa using hj,h⟩
 ·rintro⟨j,hj,h⟩;by_cases e1:j=i
  ·subst e1;refine⟨k,by simpa using hk,?_⟩;rw[mo _ _ _ _ hi hk,AI rfl,h]
  ·by_cases e2:j=k
   ·subst e2;refine⟨i,by simpa using hi,?_⟩;rw[mo _ _ _ _ hi hk];split
    ·rename_i e;exact absurd e.symm e1
    ·rw[AI rfl,h]
   ·exact⟨j,by simpa using hj,by rw[mo _ _ _ _ hi hk,By e2,By e1,h]⟩
def Hp(a:List Nd):Prop:=∀j,0<j→j<a.length→tX (dB a ((j-1)/2)) (dB a j)
theorem Hp.min(h:Hp a):∀j,j<a.length→tX (dB a 0) (dB a j):=by
 intro j;induction j using Nat.strongRecOn with
 |ind j ih=>
  intro hj;by_cases h0:j=0
  ·subst h0;exact Bd _
  ·exact tY (ih ((j-1)/2) (by omega) (by omega)) (h j (by omega) hj)
def Ye(a:List Nd)(i:Nat):Prop:=(∀j,0<j→j<a.length→j≠i→tX (dB a ((j-1)/2)) (dB a j))∧∀c,0<c→c<a.length→(c-1)/2=i→0<i→tX (dB a ((i-1)/2)) (dB a c)
theorem Ye.done(h:Ye a i)(hi:i<a.length)(hs:i=0∨CT (dB a i) (dB a ((i-1)/2))=false):Hp a:=by
 intro j h0 hj;by_cases e:j=i
 ·subst e;rcases hs with hs|hs
  ·omega
  ·exact hs
 ·exact h.1 j h0 hj e
theorem Ye.step(h:Ye a i)(h0:0<i)(hi:i<a.length)(hb:CT (dB a i) (dB a ((i-1)/2))=true):Ye (swp a i ((i-1)/2)) ((i-1)/2):=by
 have hp:(i-1)/2<a.length:=by omega
 have hpi:(i-1)/2<i:=by omega
 obtain⟨p,Fl⟩:∃p,p=(i-1)/2:=⟨_,rfl⟩;rw[←Fl]at hp hpi hb⊢;have hle:=wy hb;refine⟨fun j j0 hj dh=>?_,fun c c0 hc hcp G9=>?_⟩
 ·rw[ij]at hj;rw[mo _ _ _ _ hi hp,mo _ _ _ _ hi hp,By dh];by_cases e1:j=i
  ·subst e1;rw[←Fl,AI rfl,AI rfl];exact hle
  ·rw[By e1];by_cases e2:(j-1)/2=p
   ·rw[AI e2];have:=h.1 j j0 hj e1;rw[e2]at this;exact tY hle this
   ·rw[By e2];by_cases e3:(j-1)/2=i
    ·rw[AI e3];have:=h.2 j j0 hj e3 h0;rw[←Fl]at this;exact this
    ·rw[By e3];exact h.1 j j0 hj e1
 ·rw[ij]at hc;have hpp:(p-1)/2≠p∧(p-1)/2≠i:=by omega
  rw[mo _ _ _ _ hi hp,mo _ _ _ _ hi hp,By hpp.1,By hpp.2];have h1:=h.1 p G9 hp (by omega);by_cases e1:c=p
  ·omega
  ·rw[By e1];by_cases e2:c=i
   ·rw[AI e2];exact h1
   ·rw[By e2];have:=h.1 c c0 hc e2;rw[hcp]at this;exact tY h1 this
theorem Ye.start(h:Hp a)(x:Nd):Ye (a++[x]) a.length:=by
 have Zo:∀j,j<a.length→dB (a++[x]) j=dB a j:=fun j hj=>by simp[dB,List.getD,ajT hj]
 refine⟨fun j j0 hj dh=>?_,fun c c0 hc hcp h0=>?_⟩
 ·have:j<a.length:=by simp at hj;omega
  rw[Zo _ (by omega),Zo _ this];exact h j j0 this
 ·simp at hc;omega
def Yf(a:List Nd)(i:Nat):Prop:=(∀j,0<j→j<a.length→(j-1)/2≠i→tX (dB a ((j-1)/2)) (dB a j))∧∀c,0<c→c<a.length→(c-1)/2=i→0<i→tX (dB a ((i-1)/2)) (dB a c)
theorem Yf.done(h:Yf a i)(hs:∀c,0<c→c<a.length→(c-1)/2=i→tX (dB a i) (dB a c)):Hp a:=by
 intro j h0 hj;by_cases e:(j-1)/2=i
 ·rw[e];exact hs j h0 hj e
 ·exact h.1 j h0 hj e
theorem Yf.step{k:Nat}(h:Yf a i)(hk:k<a.length)(Xp:k=2*i+1∨k=2*i+2)(Xj:∀c,0<c→c<a.length→(c-1)/2=i→tX (dB a k) (dB a c))(hb:CT (dB a k) (dB a i)=true):Yf (swp a i k) k:=by
 have hi:i<a.length:=by omega
 have hle:=wy hb;have hpk:(k-1)/2=i:=by omega
 refine⟨fun j j0 hj dh=>?_,fun c c0 hc hcp hk0=>?_⟩
 ·rw[ij]at hj;rw[mo _ _ _ _ hi hk,mo _ _ _ _ hi hk,By dh];by_cases e1:j=k
  ·subst e1;rw[hpk,AI rfl,AI rfl];exact hle
  ·rw[By e1];by_cases e2:(j-1)/2=i
   ·rw[AI e2,By (by omega)];exact Xj j j0 hj e2
   ·rw[By e2];by_cases e3:j=i
    ·rw[AI e3];have:=h.2 k (by omega) hk hpk (by omega);rw[e3];exact this
    ·rw[By e3];exact h.1 j j0 hj e2
 ·rw[ij]at hc;rw[mo _ _ _ _ hi hk,mo _ _ _ _ hi hk,hpk,By (by omega),AI rfl,By (by omega),By (by omega)];have:=h.1 c c0 hc (by omega);rw[hcp]at this;exact this
theorem Yf.start(h:Hp a)(dh:0<a.length):Yf ((swp a 0 (a.length-1)).take (a.length-1)) 0:=by
 have hl:((swp a 0 (a.length-1)).take (a.length-1)).length=a.length-1:=by simp
 have Zo:∀j,0<j→j<a.length-1→dB ((swp a 0 (a.length-1)).take (a.length-1)) j=dB a j:=fun j j0 hj=>by
  have:dB ((swp a 0 (a.length-1)).take (a.length-1)) j=dB (swp a 0 (a.length-1)) j:=by simp[dB,List.getD,ajb hj]
  rw[this,mo _ _ _ _ (by omega) (by omega),By (by omega),By (by omega)]
 refine⟨fun j j0 hj dh=>?_,fun c _ _ _ h0=>by omega⟩;rw[hl]at hj;rw[Zo j j0 hj,Zo _ (by omega) (by omega)];exact h j j0 (by omega)
theorem Rl(dh:0<a.length)(y:Nd):(y∈(swp a 0 (a.length-1)).take (a.length-1)→y∈a)∧(y∈a→y=dB a 0∨y∈(swp a 0 (a.length-1)).take (a.length-1)):=by
 refine⟨fun h=>(CU dh (by omega) y).1 (ajX h),fun h=>?_⟩;have h:=(CU (i:=0) (k:=a.length-1) dh (by omega) y).2 h;rw[Be]at h;obtain⟨j,hj,e⟩:=h;rw[ij]at hj;by_cases hl:j=a.length-1
 ·left;rw[mo _ _ _ _ dh (by omega),AI hl]at e;exact e.symm
 ·right;rw[ajd];refine⟨j,?_⟩;rw[ajb (by omega),IA (by simpa using hj),e]
theorem S1{S R A:Type}{body:S→(S→Option R)→Option R}(st:A→S)(I:A→Prop)(m:A→Nat)(fin:A→Option R→Prop)(h:∀a,I a→∀rec,(∃a',I a'∧m a'<m a∧body (st a) rec=rec (st a'))∨(∃r,fin a r∧body (st a) rec=r)):∀N a,I a→m a<N→∃a' r,I a'∧fin a' r∧cZ body N (st a)=r:=by
 intro N;induction N with
 |zero=>intro a _ h;omega
 |succ N ih=>
  intro a hI hm;simp only[cZ];rcases h a hI (cZ body N)with⟨a',h1,h2,h3⟩|⟨r,h1,h2⟩
  ·obtain⟨a2,r,i1,i2,i3⟩:=ih a' h1 (by omega);exact⟨a2,r,i1,i2,by rw[h3];exact i3⟩
  ·exact⟨a,r,hI,h1,h2⟩
def up:Nat→List Nd→Nat→List Nd
 |0,a,_=>a
 |f+1,a,i=>if 0<i∧CT (dB a i) (dB a ((i-1)/2))=true then up f (swp a i ((i-1)/2)) ((i-1)/2)else a
def push(a:List Nd)(x:Nd):List Nd:=up (a.length+1) (a++[x]) a.length
def GC(a:List Nd)(i:Nat):Nat:=if 2*i+1+1<a.length∧CT (dB a (2*i+1+1)) (dB a (2*i+1))=true then 2*i+1+1 else 2*i+1
def down:Nat→List Nd→Nat→List Nd
 |0,a,_=>a
 |f+1,a,i=>if a.length≤2*i+1 then a else if CT (dB a (GC a i)) (dB a i)=true then down f (swp a i (GC a i)) (GC a i)else a
def Ps(a:List Nd):List Nd:=(swp a 0 (a.length-1)).take (a.length-1)
def rest(a:List Nd):List Nd:=down (a.length+1) (Ps a) 0
theorem ZA:∀(f:Nat){a:List Nd}{i:Nat},i<f→i<a.length→Ye a i→Hp (up f a i)∧(up f a i).length=a.length∧∀x,x∈up f a i↔x∈a
 |0,_,_,h,_,_=>by omega
 |f+1,a,i,hf,hi,h=>by
  unfold up;split
  ·rename_i hc;have hp:(i-1)/2<a.length:=by omega
   obtain⟨h1,h2,h3⟩:=ZA f (a:=swp a i ((i-1)/2)) (i:=(i-1)/2) (by omega) (by rw[ij];exact hp) (h.step hc.1 hi hc.2);exact⟨h1,by rw[h2,ij],fun x=>by rw[h3,CU hi hp]⟩
  ·rename_i hc;refine⟨h.done hi ?_,rfl,fun x=>Iff.rfl⟩;by_cases h0:i=0
   ·exact .inl h0
   ·right;cases hb:CT (dB a i) (dB a ((i-1)/2))with
    |false=>rfl
    |true=>exact absurd ⟨by omega,hb⟩ hc
variable{a:List Nd}
theorem Yg(h:Hp a)(x:Nd):Hp (push a x)∧(push a x).length=a.length+1∧∀y,y∈push a x↔y∈a∨y=x:=by obtain⟨h1,h2,h3⟩:=ZA (a.length+1) (a:=a++[x]) (i:=a.length) (by omega) (by simp) (Ye.start h x);exact⟨h1,by unfold push;rw[h2];simp,fun y=>by unfold push;rw[h3];simp⟩
theorem VU{i:Nat}(h:¬a.length≤2*i+1):GC a i<a.length∧(GC a i=2*i+1∨GC a i=2*i+2)∧∀c,0<c→c<a.length→(c-1)/2=i→tX (dB a (GC a i)) (dB a c):=by
 unfold GC;split
 ·rename_i hc;refine⟨by omega,.inr rfl,fun c c0 hl hp=>?_⟩;have:c=2*i+1∨c=2*i+1+1:=by omega
  rcases this with rfl|rfl
  ·exact wy hc.2
  ·exact Bd _
 ·rename_i hc;refine⟨by omega,.inl rfl,fun c c0 hl hp=>?_⟩;have:c=2*i+1∨c=2*i+1+1:=by omega
  rcases this with rfl|rfl
  ·exact Bd _
  ·unfold tX;cases hb:CT (dB a (2*i+1+1)) (dB a (2*i+1))with
   |false=>rfl
   |true=>exact absurd ⟨hl,hb⟩ hc
theorem Rm:∀(f:Nat){a:List Nd}{i:Nat},a.length≤f+i→Yf a i→Hp (down f a i)∧(down f a i).length=a.length∧∀x,x∈down f a i↔x∈a
 |0,a,i,hf,h=>⟨h.done fun c c0 hc hp=>by omega,rfl,fun x=>Iff.rfl⟩
 |f+1,a,i,hf,h=>by
  unfold down;split
  ·exact⟨h.done fun c c0 hc hp=>by omega,rfl,fun x=>Iff.rfl⟩
  ·rename_i hl;obtain⟨k1,k2,k3⟩:=VU hl;split
   ·rename_i hb;obtain⟨h1,h2,h3⟩:=Rm f (a:=swp a i (GC a i)) (i:=GC a i) (by rw[ij];omega) (h.step k1 k2 k3 hb);exact⟨h1,by rw[h2,ij],fun x=>by rw[h3,CU (by omega) k1]⟩
   ·rename_i hb;refine⟨h.done fun c c0 hc hp=>tY ?_ (k3 c c0 hc hp),rfl,fun x=>Iff.rfl⟩;unfold tX;exact ajz _▸hb
theorem IB(h:Hp a)(dh:0<a.length):Hp (rest a)∧(rest a).length=a.length-1∧(∀y∈rest a,y∈a)∧(∀y∈a,y=dB a 0∨y∈rest a)∧∀y∈a,(dB a 0).len≤y.len:=by
 have hl:(Ps a).length=a.length-1:=by simp[Ps]
 obtain⟨h1,h2,h3⟩:=Rm (a.length+1) (a:=Ps a) (i:=0) (by rw[hl];omega) (Yf.start h dh);refine⟨h1,by unfold rest;rw[h2,hl],fun y hy=>?_,fun y hy=>?_,fun y hy=>?_⟩
 ·exact(Rl dh y).1 ((h3 y).1 hy)
 ·rcases(Rl dh y).2 hy with h|h
  ·exact .inl h
  ·exact .inr ((h3 y).2 h)
 ·obtain⟨j,hj,rfl⟩:=Be.1 hy;exact VS (h.min j hj)
structure Ed where
 f:Nat
 t:Nat
 c:Nat
 deriving DecidableEq,Inhabited
def ew(E:List Ed)(i j c:Nat):Prop:=(⟨i,j,c⟩:Ed)∈E
abbrev Lab:=Option (Nat×Nat)
abbrev nd:=Nat→Lab
def wz(o:nd)(v:Nat)(l:Lab):nd:=fun u=>if u=v then l else o u
def uQ(E:List Ed)(o:nd):Nat:=E.countP fun y=>(o y.f).isNone
def Fu(n:Nat)(o:nd):Nat:=(List.range n).countP fun v=>(o v).isSome
def IC(E:List Ed)(s v L:Nat):Prop:=(v=s∧L=0)∨jX (ew E) s v L
structure DI(E:List Ed)(n s B:Nat)(o:nd)(pu:Nat)(H:List Nd):Prop where
 hp:Hp H
 node:∀x∈H,x.n<n
 real:∀x∈H,IC E s x.n x.len
 kW:∀v L e,v<n→o v=some (L,e)→IC E s v L∧∀L',IC E s v L'→L≤L'
 front:∀u L e v c,u<n→o u=some (L,e)→(⟨u,v,c⟩:Ed)∈E→o v=none→∃x∈H,x.n=v∧x.len≤L+c
 src:o s=none→∃x∈H,x.n=s∧x.len=0
 VV:∀x∈H,x.len≤B*Fu n o∧x.e≤Fu n o
 aaO:∀v L e,v<n→o v=some (L,e)→L≤B*n∧e≤n
 cnt:pu+uQ E o≤1+E.length
 aaP:H.length≤pu
theorem Rn(n:Nat)(o:nd):Fu n o≤n:=by unfold Fu;have:=aku (p:=fun v=>(o v).isSome) (l:=List.range n);simpa using this
theorem Cj{A:Type}[DecidableEq A]{p q:A→Bool}{v:A}:∀{l:List A},l.Nodup→v∈l→(∀u,u≠v→p u=q u)→p v=false→q v=true→l.countP q=l.countP p+1
 |a::l,hn,hv,hpq,h0,h1=>by
  rw[alc]at hn;rw[aky,aky];by_cases e:a=v
  ·subst e;have:l.countP q=l.countP p:=by apply List.countP_congr;intro u hu;rw[hpq u fun e=>by subst e;exact hn.1 hu]
   rw[this,h0,h1];simp
  ·have Uk:v∈l:=by rcases abX.1 hv with h|h;exact absurd h.symm e;exact h
   rw[Cj hn.2 Uk hpq h0 h1,hpq a e];omega
variable{o:nd}
theorem VW{n:Nat}{v:Nat}{l:Nat×Nat}(hv:v<n)(h:o v=none):Fu n (wz o v (some l))=Fu n o+1:=Cj (p:=fun v=>(o v).isSome) (q:=fun u=>(wz o v (some l) u).isSome) (v:=v) List.nodup_range (ajV.2 hv) (fun u hu=>by simp[wz,hu]) (by simp[h]) (by simp[wz])
theorem DI.least{E:List Ed}{n s B:Nat}{pu:Nat}{H:List Nd}(h:DI E n s B o pu H)(hE:∀y∈E,y.f<n∧y.t<n){v L:Nat}(hv:o v=none)(hw:IC E s v L):∃x∈H,x.len≤L:=by
 cases hs:o s with
 |none=>obtain⟨x,h1,_,h2⟩:=h.src hs;exact⟨x,h1,by omega⟩
 |some l=>
  obtain⟨Ls,es⟩:=l;rcases hw with⟨rfl,_⟩|hw
  ·rw[hs]at hv;cases hv
  have key:∀{v L:Nat},jX (ew E) s v L→o v=none→∃x∈H,x.len≤L:=by
   intro v L hw;induction hw with
   | @EK j c hc=>intro hv;have uW:s<n:=(hE _ hc).1;obtain⟨x,h1,_,h2⟩:=h.front s Ls es j c uW hs hc hv;have:=(h.kW s Ls es uW hs).2 0 (.inl ⟨rfl,rfl⟩);exact⟨x,h1,by omega⟩
   | @snoc m j A c hA hc ih=>
    intro hv;cases hm:o m with
    |none=>obtain⟨x,h1,h2⟩:=ih hm;exact⟨x,h1,by omega⟩
    |some l=>obtain⟨Lm,em⟩:=l;have uW:m<n:=(hE _ hc).1;obtain⟨x,h1,_,h2⟩:=h.front m Lm em j c uW hm hc hv;have:=(h.kW m Lm em uW hm).2 A (.inr hA);exact⟨x,h1,by omega⟩
  exact key hw hv
theorem DI.skip{E:List Ed}{n s B:Nat}{pu:Nat}{H:List Nd}(h:DI E n s B o pu H)(dh:0<H.length)(vz:(o (dB H 0).n).isSome=true):DI E n s B o pu (rest H):=by
 obtain⟨r1,r2,r3,r4,r5⟩:=IB h.hp dh;have other:∀x∈H,o x.n=none→x∈rest H:=fun x hx hn=>by
  rcases r4 x hx with e|e
  ·rw[e]at hn;rw[hn]at vz;cases vz
  ·exact e
 refine⟨r1,fun x hx=>h.node x (r3 x hx),fun x hx=>h.real x (r3 x hx),h.kW,fun u L e v c hu ho he hv=>?_,fun hs=>?_,fun x hx=>h.VV x (r3 x hx),h.aaO,h.cnt,by rw[r2];have:=h.aaP;omega⟩
 ·obtain⟨x,x1,x2,x3⟩:=h.front u L e v c hu ho he hv;exact⟨x,other x x1 (by rw[x2];exact hv),x2,x3⟩
 ·obtain⟨x,x1,x2,x3⟩:=h.src hs;exact⟨x,other x x1 (by rw[x2];exact hs),x2,x3⟩
def mP(o:nd)(x:Nd):List Ed→Nat→List Nd→Nat×List Nd
 |[],pu,H=>(pu,H)
 |z::es,pu,H=>if(o z.t).isNone=true then mP o x es (pu+1) (push H ⟨z.t,x.len+z.c,x.e+1,pu⟩)else mP o x es pu H
theorem EL{o:nd}{x:Nd}:∀{es:List Ed}{pu:Nat}{H:List Nd},Hp H→∃k,k≤es.length∧(mP o x es pu H).1=pu+k∧(mP o x es pu H).2.length=H.length+k∧Hp (mP o x es pu H).2∧(∀y∈(mP o x es pu H).2,y∈H∨∃z∈es,o z.t=none∧y.n=z.t∧y.len=x.len+z.c∧y.e=x.e+1)∧(∀y∈H,y∈(mP o x es pu H).2)∧∀z∈es,o z.t=none→∃y∈(mP o x es pu H).2,y.n=z.t∧y.len=x.len+z.c
 |[],pu,H,h=>⟨0,aiJ _,rfl,rfl,h,fun y hy=>.inl hy,fun y hy=>hy,fun z hz=>by cases hz⟩
 |z::es,pu,H,h=>by
  unfold mP;split
  ·rename_i hz;have hz:o z.t=none:=by simpa using hz
   obtain⟨p1,p2,p3⟩:=Yg h ⟨z.t,x.len+z.c,x.e+1,pu⟩;obtain⟨k,k1,k2,k3,k4,k5,k6,k7⟩:=EL (o:=o) (x:=x) (es:=es) (pu:=pu+1) p1;refine⟨k+1,by simp;omega,by rw[k2];omega,by rw[k3,p2];omega,k4,fun y hy=>?_,fun y hy=>k6 y ((p3 y).2 (.inl hy)),fun z' Ua hn=>?_⟩
   ·rcases k5 y hy with h1|⟨z',h1,h2⟩
    ·rcases(p3 y).1 h1 with h1|rfl
     ·exact .inl h1
     ·exact .inr ⟨z,by simp,hz,rfl,rfl,rfl⟩
    ·exact .inr ⟨z',by simp[h1],h2⟩
   ·rcases abX.1 Ua with rfl|Ua
    ·exact⟨_,k6 _ ((p3 _).2 (.inr rfl)),rfl,rfl⟩
    ·exact k7 z' Ua hn
  ·rename_i hz;obtain⟨k,k1,k2,k3,k4,k5,k6,k7⟩:=EL (o:=o) (x:=x) (es:=es) (pu:=pu) h;refine⟨k,by simp;omega,k2,k3,k4,fun y hy=>?_,k6,fun z' Ua hn=>?_⟩
   ·rcases k5 y hy with h1|⟨z',h1,h2⟩
    ·exact .inl h1
    ·exact .inr ⟨z',by simp[h1],h2⟩
   ·rcases abX.1 Ua with rfl|Ua
    ·rw[hn]at hz;exact absurd rfl hz
    ·exact k7 z' Ua hn
theorem VX(E:List Ed)(o:nd)(v:Nat)(l:Nat×Nat)(h:o v=none):uQ E o=uQ E (wz o v (some l))+(E.filter fun y=>y.f==v).length:=by
 unfold uQ;induction E with
 |nil=>rfl
 |cons y E ih=>
  rw[aky,aky,ajG,ih];by_cases e:y.f=v
  ·subst e;simp[wz,h];omega
  ·simp[wz,e];omega
variable{E:List Ed}
theorem DI.settle{n s B:Nat}{o:nd}{pu:Nat}{H:List Nd}(h:DI E n s B o pu H)(hE:∀y∈E,y.f<n∧y.t<n∧y.c≤B)(dh:0<H.length)(BV:o (dB H 0).n=none):DI E n s B (wz o (dB H 0).n (some ((dB H 0).len,(dB H 0).e))) (mP (wz o (dB H 0).n (some ((dB H 0).len,(dB H 0).e))) (dB H 0) (E.filter fun y=>y.f==(dB H 0).n) pu (rest H)).1 (mP (wz o (dB H 0).n (some ((dB H 0).len,(dB H 0).e))) (dB H 0) (E.filter fun y=>y.f==(dB H 0).n) pu (rest H)).2∧(mP (wz o (dB H 0).n (some ((dB H 0).len,(dB H 0).e))) (dB H 0) (E.filter fun y=>y.f==(dB H 0).n) pu (rest H)).2.length+uQ E (wz o (dB H 0).n (some ((dB H 0).len,(dB H 0).e)))<H.length+uQ E o:=by
 obtain⟨r1,r2,r3,r4,r5⟩:=IB h.hp dh;obtain⟨x,hx⟩:∃x,x=dB H 0:=⟨_,rfl⟩;rw[←hx]at BV r4 r5⊢;have hxm:x∈H:=Be.2 ⟨0,dh,hx.symm⟩;have hxn:=h.node x hxm;obtain⟨o1,ho1⟩:∃o1,o1=wz o x.n (some (x.len,x.e)):=⟨_,rfl⟩;rw[←ho1];have oo:∀v,o1 v=if v=x.n then some (x.len,x.e)else o v:=fun v=>by rw[ho1];rfl
 have on:∀v,o1 v=none→v≠x.n∧o v=none:=fun v hv=>by
  rw[oo]at hv;split at hv
  ·cases hv
  ·exact⟨‹_›,hv⟩
 obtain⟨k,k1,k2,k3,k4,k5,k6,k7⟩:=EL (o:=o1) (x:=x) (es:=E.filter fun y=>y.f==x.n) (pu:=pu) r1;have hs:Fu n o1=Fu n o+1:=by rw[ho1];exact VW hxn BV
 have Sn:uQ E o=uQ E o1+(E.filter fun y=>y.f==x.n).length:=by rw[ho1];exact VX E o x.n _ BV
 have mem:∀z,z∈(E.filter fun y=>y.f==x.n)↔z∈E∧z.f=x.n:=fun z=>by simp[aj1]
 have go:∀z,z∈E→z.f=x.n→jX (ew E) s z.t (x.len+z.c):=fun z hz hf=>by
  have he:ew E x.n z.t z.c:=by
   unfold ew;have:(⟨x.n,z.t,z.c⟩:Ed)=z:=by rw[←hf]
   rw[this];exact hz
  rcases h.real x hxm with⟨e1,e2⟩|hw
  ·rw[e2,ajk];rw[e1]at he;exact .EK he
  ·exact .snoc hw he
 have other:∀y∈H,y.n≠x.n→y∈(mP o1 x (E.filter fun y=>y.f==x.n) pu (rest H)).2:=fun y hy hn=>by
  rcases r4 y hy with e|e
  ·exact absurd (by rw[e]) hn
  ·exact k6 y e
 refine⟨⟨k4,fun y hy=>?_,fun y hy=>?_,fun v L e hv ho=>?_,fun u L e v c hu ho he hv=>?_,fun hs'=>?_,fun y hy=>?_,fun v L e hv ho=>?_,?_,?_⟩,?_⟩
 ·rcases k5 y hy with h1|⟨z,z1,z2,z3,_⟩
  ·exact h.node y (r3 y h1)
  ·rw[z3];exact(hE z ((mem z).1 z1).1).2.1
 ·rcases k5 y hy with h1|⟨z,z1,z2,z3,z4,_⟩
  ·exact h.real y (r3 y h1)
  ·rw[z3,z4];exact .inr (go z ((mem z).1 z1).1 ((mem z).1 z1).2)
 ·rw[oo]at ho;split at ho
  ·rename_i e';simp only[cN,IT]at ho;obtain⟨rfl,rfl⟩:=ho;subst e';refine⟨h.real x hxm,fun L' hL=>?_⟩;obtain⟨y,y1,y2⟩:=h.least (fun y hy=>⟨(hE y hy).1,(hE y hy).2.1⟩) BV hL;exact ajq (r5 y y1) y2
  ·exact h.kW v L e hv ho
 ·obtain⟨v1,v2⟩:=on v hv;rw[oo]at ho;split at ho
  ·rename_i e';simp only[cN,IT]at ho;obtain⟨rfl,rfl⟩:=ho;obtain⟨y,y1,y2,y3⟩:=k7 ⟨u,v,c⟩ ((mem _).2 ⟨he,e'⟩) hv;exact⟨y,y1,y2,by rw[y3];exact aiJ _⟩
  ·obtain⟨y,y1,y2,y3⟩:=h.front u L e v c hu ho he v2;exact⟨y,other y y1 (by rw[y2];exact v1),y2,y3⟩
 ·obtain⟨v1,v2⟩:=on s hs';obtain⟨y,y1,y2,y3⟩:=h.src v2;exact⟨y,other y y1 (by rw[y2];exact v1),y2,y3⟩
 ·rw[hs,Nat.mul_succ];rcases k5 y hy with h1|⟨z,z1,z2,z3,z4,z5⟩
  ·have:=h.VV y (r3 y h1);omega
  ·have:=h.VV x hxm;have:=(hE z ((mem z).1 z1).1).2.2;omega
 ·rw[oo]at ho;split at ho
  ·simp only[cN,IT]at ho;obtain⟨rfl,rfl⟩:=ho;have h1:=h.VV x hxm;have h2:=Rn n o;have h3:B*Fu n o≤B*n:=ajL _ h2;omega
  ·exact h.aaO v L e hv ho
 ·have:=h.cnt;omega
 ·have:=h.aaP;omega
 ·rw[k3,r2];omega
theorem DI.start{n s B:Nat}(hs:s<n):DI E n s B (fun _=>none) 1 [⟨s,0,0,0⟩]:=by
 refine⟨fun j j0 hj=>by simp at hj;omega,fun x hx=>?_,fun x hx=>?_,fun v L e _ h=>(by cases h),fun u L e v c _ h=>(by cases h),fun _=>⟨⟨s,0,0,0⟩,by simp,rfl,rfl⟩,fun x hx=>?_,fun v L e _ h=>(by cases h),?_,by simp⟩
 ·simp at hx;subst hx;exact hs
 ·simp at hx;subst hx;exact .inl ⟨rfl,rfl⟩
 ·simp at hx;subst hx;simp
 ·have:uQ E (fun _=>none)=E.length:=by simp[uQ]
  omega
theorem DI.done{n s B:Nat}{o:nd}{pu:Nat}(h:DI E n s B o pu [])(hE:∀y∈E,y.f<n∧y.t<n∧y.c≤B){v:Nat}(hv:v<n):match o v with
 |some (L,_)=>L≤B*n∧IC E s v L∧∀L',IC E s v L'→L≤L'
 |none=>∀L',¬IC E s v L':=by
 cases ho:o v with
 |some l=>obtain⟨L,e⟩:=l;exact⟨(h.aaO v L e hv ho).1,h.kW v L e hv ho⟩
 |none=>
  intro L' hL
  obtain⟨x,hx,_⟩:=h.least (fun y hy=>⟨(hE y hy).1,(hE y hy).2.1⟩) ho hL
  cases hx
set_option maxRecDepth 100000
set_option linter.unusedVariables false
set_option linter.unusedSimpArgs false
def Nd.pv(x:Nd):PV:=.agg [.int .i64 x.n,.int .i64 x.len,.int .i64 x.e,.int .i64 x.num]
abbrev mJ(a:List Nd):List PV:=a.map Nd.pv
theorem nd0(x:Nd):cell x.pv 0=.int .i64 x.n:=rfl
theorem nd1(x:Nd):cell x.pv 1=.int .i64 x.len:=rfl
theorem nd2(x:Nd):cell x.pv 2=.int .i64 x.e:=rfl
theorem nd3(x:Nd):cell x.pv 3=.int .i64 x.num:=rfl
theorem ndE(x:Nd):PV.agg [cell x.pv 0,cell x.pv 1,cell x.pv 2,cell x.pv 3]=x.pv:=rfl
theorem fh{a:List Nd}{i:Nat}(h:i<a.length):(mJ a)[i]?=some (dB a i).pv:=by rw[GP,IA h];rfl
theorem adw(a b c:PV):cell (.agg [a,b,c]) 0=a:=rfl
theorem aaQ(a b c:PV):cell (.agg [a,b,c]) 1=b:=rfl
theorem adx(a b c:PV):cell (.agg [a,b,c]) 2=c:=rfl
theorem ag3(a b c:PV):asAgg 3 (.agg [a,b,c])=some ():=rfl
theorem Yh(a b:Nd):fR [.agg [cell a.pv 0,cell a.pv 1,cell a.pv 2],.agg [cell b.pv 0,cell b.pv 1,cell b.pv 2]]=some (.bool (decide (a.len<b.len∨(a.len=b.len∧a.e<b.e)))):=by
 simp only[fR,sg,ag3,adw,aaQ,adx,nd0,nd1,nd2,IS,U,asInt];by_cases h1:a.len<b.len
 ·simp[h1]
 ·by_cases h2:a.len=b.len
  ·simp[h2]
  ·have:((a.len:Int)==(b.len:Int))=false:=by rw[ajf];omega
   simp[h1,h2,this]
theorem tc(a:List Nd)(pu:Nat)(i k:Nat)(hi:i<a.length)(hk:k<a.length):aN [.rp [.fn 262 [],.rs 4 (mJ a),.int .i64 pu],.int .i64 i,.int .i64 k]=some (.bool (CT (dB a i) (dB a k))):=by
 have e0:ay 4 (PV.rs 4 (mJ a))=some (mJ a):=by simp[ay]
 simp only[aN,dS,aaQ,adx,e0,U,asInt,IS,aU,fh hi,fh hk,Yh,asBool,nd3];generalize dB a i=x;generalize dB a k=y;unfold CT;by_cases h1:x.len<y.len∨(x.len=y.len∧x.e<y.e)
 ·have:(x.len<y.len∨(x.len=y.len∧(x.e<y.e∨(x.e=y.e∧x.num<y.num)))):=by omega
  simp[h1,this]
 ·by_cases h2:y.len<x.len∨(y.len=x.len∧y.e<x.e)
  ·have:¬(x.len<y.len∨(x.len=y.len∧(x.e<y.e∨(x.e=y.e∧x.num<y.num)))):=by omega
   simp[h1,h2,this]
  ·have:(x.len<y.len∨(x.len=y.len∧(x.e<y.e∨(x.e=y.e∧x.num<y.num))))↔x.num<y.num:=by omega
   simp[h1,h2,this]
theorem half(i:Nat)(h:0<i)(hi:i<4611686018427387904):IntKind.i64.wrap ((IntKind.i64.wrap ((i:Int)-1)).tdiv 2)=(((i-1)/2:Nat):Int):=by
 have e1:IntKind.i64.wrap ((i:Int)-1)=((i-1:Nat):Int):=by rw[dU (by omega) (by omega)];omega
 have e2:((i-1:Nat):Int).tdiv 2=(((i-1)/2:Nat):Int):=rfl;rw[e1,e2,dU (by omega) (by omega)]
theorem CV{i:Nat}{es:List PV}(h:i<es.length):aj (i:Int) es.length:=⟨by omega,by omega⟩
theorem ID(a:List Nd)(i k:Nat):((mJ a).set i (dB a k).pv).set k (dB a i).pv=mJ (swp a i k):=by simp[swp,List.map_set]
theorem Rp(qN:TY2→Option PV)(t1:PV)(es:List PV)(ln ix:Int)(pu:Nat)(out:List PV)(x0 x1 x2:PV):∀(f N:Nat)(a:List Nd)(i:Nat),i<f→f≤N→i<a.length→a.length<4611686018427387904→cZ (kX qN) N ((i:Int),t1,es,ln,ix,(pu:Int),out,x0,x1,x2,mJ a,())=qN (t1,es,ln,IntKind.i64.wrap (ix+1),out,(pu:Int),x0,x1,x2,mJ (up f a i),())
 |0,_,_,_,h,_,_,_=>by omega
 |f+1,0,_,_,_,h,_,_=>by omega
 |f+1,N+1,a,i,hf,hN,hi,ha=>by
  simp only[cZ];unfold kX up;by_cases h0:0<i
  ·have hp:(i-1)/2<a.length:=by omega
   have hg:decide ((i:Int)>0)=true:=by simp;omega
   simp only[hg,cond_true,half i h0 (by omega),tc a pu i ((i-1)/2) hi hp,U,asBool];by_cases hb:CT (dB a i) (dB a ((i-1)/2))=true
   ·have hl1:i<(mJ a).length:=by simpa using hi
    have hl2:(i-1)/2<(mJ a).length:=by simpa using hp
    have hl3:(i-1)/2<((mJ a).set i (dB a ((i-1)/2)).pv).length:=by simpa using hp
    have GD:((mJ a).set i (dB a ((i-1)/2)).pv)[(i-1)/2]?=some (dB a ((i-1)/2)).pv:=by rw[ai9];rw[By (by omega),fh hp]
    simp only[hb,IS,AI (CV hl1),AI (CV hl2),AI (CV hl3),aiP,fh hi,fh hp,U,ndE,GD,ID,h0,and_self];exact Rp qN t1 es ln ix pu out x0 x1 x2 f N (swp a i ((i-1)/2)) ((i-1)/2) (by omega) (by omega) (by rw[ij];exact hp) (by rw[ij];exact ha)
   ·simp only[hb,cT,T1,and_false]
  ·have hg:decide ((i:Int)>0)=false:=by simp;omega
   simp only[hg,cond_false,U,cT,T1,h0,false_and]
def rK(v:Nat):Lab→PV
 |none=>.agg [.int .i64 v,.int .i64 (-1),.int .i64 (-1)]
 |some (L,e)=>.agg [.int .i64 v,.int .i64 (L:Int),.int .i64 (e:Int)]
def dF(n:Nat)(o:nd):List PV:=(List.range n).map fun v=>rK v (o v)
def Ed.pv(y:Ed):PV:=.agg [.int .i64 y.f,.int .i64 y.t,.int .i64 y.c]
theorem pD(n:Nat)(o:nd):(dF n o).length=n:=by simp[dF]
theorem pE{n v:Nat}(o:nd)(h:v<n):(dF n o)[v]?=some (rK v (o v)):=by simp[dF,h]
theorem S2{n v:Nat}(o:nd)(l:Nat×Nat)(h:v<n):(dF n o).set v (rK v (some l))=dF n (wz o v (some l)):=by
 apply aiY;intro i;rw[ai9];by_cases e:v=i
 ·subst e;rw[AI rfl,AI (by rw[pD];exact h),pE _ h];simp[wz]
 ·rw[By e];by_cases hi:i<n
  ·rw[pE _ hi,pE _ hi];simp[wz,Ne.symm e]
  ·rw[ahl (by rw[pD];omega),ahl (by rw[pD];omega)]
theorem ady(v:Nat)(l:Lab):∃z:Int,asInt .i64 (cell (rK v l) 2)=some z∧(decide (z<0)=l.isNone)∧decide (z≥0)=l.isSome:=by
 cases l with
 |none=>exact⟨-1,rfl,rfl,rfl⟩
 |some p=>obtain⟨L,e⟩:=p;exact⟨e,rfl,by simp,by simp⟩
theorem ed1(y:Ed):cell y.pv 1=.int .i64 y.t:=rfl
theorem ed2(y:Ed):cell y.pv 2=.int .i64 y.c:=rfl
theorem E6(n:Int):asInt .i64 (.int .i64 n)=some n:=by simp[asInt]
theorem GF(cJ:PV×List PV×Int×List PV×Unit→Option PV)(t1:PV)(n:Nat)(o:nd)(x:Nd)(es:List Ed)(ht:∀z∈es,z.t<n)(hn:n<4294967296)(hx:x.len<4611686018427387904)(hxe:x.e<4611686018427387904)(hc:∀z∈es,z.c<4611686018427387904)(F8:es.length<4611686018427387904):∀(m N k pu:Nat)(H:List Nd),m+k=es.length→m<N→pu+m<4294967296→H.length+m<4294967296→cZ (cP bl cJ) N (t1,es.map Ed.pv,((es.length:Nat):Int),(k:Int),dF n o,(pu:Int),.int .i64 x.n,.int .i64 x.len,.int .i64 x.e,mJ H,())=cJ (t1,dF n o,((mP o x (es.drop k) pu H).1:Int),mJ (mP o x (es.drop k) pu H).2,())
 |_,0,_,_,_,_,h,_,_=>by omega
 |0,N+1,k,pu,H,hk,hN,hpu,hH=>by
  simp only[cZ];unfold cP;dsimp only;have hg:decide ((k:Int)<((es.length:Nat):Int))=false:=by simp;omega
  rw[hg,ak8 (by omega)];rfl
 |m+1,N+1,k,pu,H,hk,hN,hpu,hH=>by
  have ih:=GF cJ t1 n o x es ht hn hx hxe hc F8 m N (k+1);simp only[cZ];generalize cZ (cP bl cJ) N=rec at ih⊢;unfold cP;dsimp only;have Zg:k<es.length:=by omega
  have hg:decide ((k:Int)<((es.length:Nat):Int))=true:=by simp;omega
  obtain⟨z,hz⟩:∃z,es[k]?=some z:=⟨_,cO Zg⟩;have hzm:z∈es:=abV hz;have hzt:=ht z hzm;have Fi:(es.map Ed.pv)[k]?=some z.pv:=by rw[GP,hz];rfl
  have adz:es.drop k=z::es.drop (k+1):=by rw[akg Zg];have:=cO Zg;rw[hz]at this;rw[akJ this]
  obtain⟨w,w1,w2,w3⟩:=ady z.t (o z.t);have uW:aj (z.t:Int) (dF n o).length:=CV (by rw[pD];exact hzt);rw[adz,mP];simp only[hg,IS,aU,Fi,U,ed1,ed2,E6,AI uW,aiP,pE o hzt,w1,w2];by_cases BV:(o z.t).isNone=true
  ·have e1:IntKind.i64.wrap ((x.len:Int)+(z.c:Int))=((x.len+z.c:Nat):Int):=by have:=hc z hzm;rw[dU (by omega) (by omega)];omega
   have e2:mJ H++[PV.agg [.int .i64 z.t,.int .i64 ((x.len+z.c:Nat):Int),.int .i64 ((x.e+1:Nat):Int),.int .i64 pu]]=mJ (H++[⟨z.t,x.len+z.c,x.e+1,pu⟩]):=by simp[mJ,Nd.pv]
   have e3:(mJ (H++[⟨z.t,x.len+z.c,x.e+1,pu⟩])).length=H.length+1:=by simp
   have e4:IntKind.i64.wrap (((H.length+1:Nat):Int)-1)=(H.length:Int):=by rw[dU (by omega) (by omega)];omega
   have gn:(H.length+1)*32≤ar∧0<32:=by unfold ar;omega
   simp only[BV,IS,e1,aO (show x.e<9223372036854775807 by omega),e2,e3,e4,AI gn,aO (show pu<9223372036854775807 by omega),nu];refine(Rp rec t1 (es.map Ed.pv) ((es.length:Nat):Int) (k:Int) (pu+1) (dF n o) _ _ _ (H.length+1) rounds (H++[⟨z.t,x.len+z.c,x.e+1,pu⟩]) H.length (by omega) (by unfold rounds;omega) (by simp) (by simp;omega)).trans ?_;rw[aO (by omega)];rw[show up (H.length+1) (H++[⟨z.t,x.len+z.c,x.e+1,pu⟩]) H.length=push H ⟨z.t,x.len+z.c,x.e+1,pu⟩from rfl];refine ih (pu+1) _ (by omega) (by omega) (by omega) ?_;have:(push H ⟨z.t,x.len+z.c,x.e+1,pu⟩).length=H.length+1:=by
    unfold push;have key:∀(f:Nat)(a:List Nd)(i:Nat),(up f a i).length=a.length:=by
     intro f;induction f with
     |zero=>intro a i;rfl
     |succ f ih=>
      intro a i;unfold up;split
      ·rw[ih,ij]
      ·rfl
    rw[key];simp
   omega
  ·simp only[BV,cT,T1,aO (show k<9223372036854775807 by omega)];exact ih pu H (by omega) (by omega) (by omega) (by omega)
structure Gr(E:List Ed)(n:Nat)(ks vs:List PV):Prop where
 small:n<4294967296
 len:E.length<1073741824
 node:∀y∈E,y.f<n∧y.t<n∧y.c≤1073741824
 look:∀v:Nat,v<n→ay 3 (cH (.int .i64 v) (.rs 0 []) (ks.zip vs))=some ((E.filter fun y=>y.f==v).map Ed.pv)
section
variable {E:List Ed} {n:Nat} {ks vs:List PV}
def labelled(o:nd)(x:Nd):nd:=wz o x.n (some (x.len,x.e))
def KR(cJ:PV×List PV×Int×List PV×Unit→Option PV)(E:List Ed)(n:Nat)(ks vs:List PV)(o:nd)(x:Nd)(pu:Nat)(H:List Nd):Option PV:=
 if(o x.n).isSome=true then cJ (.rm 3 ks vs,dF n o,(pu:Int),mJ H,())
 else cJ (.rm 3 ks vs,dF n (labelled o x),((mP (labelled o x) x (E.filter fun y=>y.f==x.n) pu H).1:Int),mJ (mP (labelled o x) x (E.filter fun y=>y.f==x.n) pu H).2,())
structure Sm(n:Nat)(E:List Ed)(x:Nd)(pu:Nat)(H:List Nd):Prop where
 node:x.n<n
 len:x.len<4611686018427387904
 e:x.e<4611686018427387904
 pu:pu≤1073741824
 H:H.length≤1073741824
theorem xb(hG:Gr E n ks vs)(cJ:PV×List PV×Int×List PV×Unit→Option PV)(o:nd)(x:Nd)(pu:Nat)(H:List Nd)(hS:Sm n E x pu H)(A:Int→PV→Int→Option PV):((asInt .i64 (.int .i64 x.n)).bind fun n23=>if aj n23 (dF n o).length then(dF n o)[n23.toNat]?.bind fun ZB=>(asInt .i64 (cell ZB 2)).bind fun n25=>if decide (n25≥0)=true then cJ (.rm 3 ks vs,dF n o,(pu:Int),mJ H,())else(asInt .i64 (.int .i64 x.n)).bind fun n26=>if aj n26 (dF n o).length then(dF n o)[n26.toNat]?.bind fun e27=>(asInt .i64 (.int .i64 x.n)).bind fun n28=>df 3 (.rm 3 ks vs) (A n26 e27 n28) fun aaR S3=>(ay 3 (cH (.int .i64 n28) (.rs 0 []) (aaR.zip S3))).bind fun Fv=>bl.run (cP bl cJ) (.rm 3 ks vs,Fv,(Fv.length:Int),0,(dF n o).set n26.toNat (.agg [.int .i64 x.n,.int .i64 x.len,.int .i64 x.e]),(pu:Int),.int .i64 x.n,.int .i64 x.len,.int .i64 x.e,mJ H,())else none else none)=KR cJ E n ks vs o x pu H:=by
 have uW:aj (x.n:Int) (dF n o).length:=CV (by rw[pD];exact hS.node)
 obtain⟨w,w1,w2,w3⟩:=ady x.n (o x.n)
 simp only[E6,U,AI uW,aiP,pE o hS.node,w1,w3,df,IS,hG.look x.n hS.node,nu]
 unfold KR
 by_cases hs:(o x.n).isSome=true
 ·simp only[hs,IS]
 ·simp only[hs,cT,T1];have e1:(dF n o).set x.n (.agg [.int .i64 x.n,.int .i64 x.len,.int .i64 x.e])=dF n (labelled o x):=S2 o (x.len,x.e) hS.node;rw[e1];have hl:(E.filter fun y=>y.f==x.n).length≤E.length:=ali ..;have bQ:∀z∈E.filter (fun y=>y.f==x.n),z∈E:=fun z hz=>(aj1.1 hz).1;have h1:=hG.len;have h2:=hS.pu;have h3:=hS.H;have:=GF cJ (.rm 3 ks vs) n (labelled o x) x (E.filter fun y=>y.f==x.n) (fun z hz=>(hG.node z (bQ z hz)).2.1) hG.small hS.len hS.e (fun z hz=>by have:=(hG.node z (bQ z hz)).2.2;omega) (by omega) (E.filter fun y=>y.f==x.n).length rounds 0 pu H (by omega) (by unfold rounds;omega) (by omega) (by omega);rw[List.drop_zero]at this;simpa using this
theorem VY{a:List Nd}{i:Nat}(h:2*i+1+1<a.length∧CT (dB a (2*i+1+1)) (dB a (2*i+1))=true):GC a i=2*i+1+1:=AI h
theorem S4{a:List Nd}{i:Nat}(h:¬(2*i+1+1<a.length∧CT (dB a (2*i+1+1)) (dB a (2*i+1))=true)):GC a i=2*i+1:=By h
theorem GG(hG:Gr E n ks vs)(cJ:PV×List PV×Int×List PV×Unit→Option PV)(o:nd)(x:Nd)(pu:Nat)(z1 z2 z3:Int):∀(f N:Nat)(a:List Nd)(i:Nat),a.length≤f+i→f<N→i<4294967296→Sm n E x pu a→cZ (dN bl cJ) N ((i:Int),.rm 3 ks vs,(pu:Int),z1,z2,z3,.int .i64 x.n,.int .i64 x.len,.int .i64 x.e,dF n o,mJ a,())=KR cJ E n ks vs o x pu (down f a i)
 |_,0,_,_,_,h,_,_=>by omega
 |0,N+1,a,i,hf,hN,hi,hS=>by
  simp only[cZ];generalize cZ (dN bl cJ) N=rec;unfold dN down;dsimp only;have e1:IntKind.i64.wrap (IntKind.i64.wrap (2*(i:Int))+1)=((2*i+1:Nat):Int):=by rw[dU (x:=2*(i:Int)) (by omega) (by omega),dU (by omega) (by omega)];omega
  have hg:decide (((2*i+1:Nat):Int)≥((mJ a).length:Int))=true:=by simp;omega
  rw[e1,AI hg];exact xb hG cJ o x pu a hS _
 |f+1,N+1,a,i,hf,hN,hi,hS=>by
  have ih:=GG hG cJ o x pu z1 z2 z3 f N;simp only[cZ];generalize cZ (dN bl cJ) N=rec at ih⊢;have e1:IntKind.i64.wrap (IntKind.i64.wrap (2*(i:Int))+1)=((2*i+1:Nat):Int):=by rw[dU (x:=2*(i:Int)) (by omega) (by omega),dU (by omega) (by omega)];omega
  have e2:IntKind.i64.wrap (((2*i+1:Nat):Int)+1)=((2*i+1+1:Nat):Int):=aO (by omega);unfold dN down;dsimp only;rw[e1,e2];by_cases hl:a.length≤2*i+1
  ·have hg:decide (((2*i+1:Nat):Int)≥((mJ a).length:Int))=true:=by simp;omega
   rw[AI hg,AI hl];exact xb hG cJ o x pu a hS _
  ·have hg:¬decide (((2*i+1:Nat):Int)≥((mJ a).length:Int))=true:=by simp;omega
   rw[By hg,By hl];have hlen:=hS.H;have oc:i<a.length:=by omega
   have hi1:i<(mJ a).length:=by simpa using oc
   obtain⟨k1,k2,_⟩:=VU hl;have R9:GC a i<(mJ a).length:=by simpa using k1
   have hk3:GC a i<((mJ a).set i (dB a (GC a i)).pv).length:=by simpa using k1
   have GD:((mJ a).set i (dB a (GC a i)).pv)[GC a i]?=some (dB a (GC a i)).pv:=by rw[ai9,By (by omega),fh k1]
   have fin:=ih (swp a i (GC a i)) (GC a i) (by rw[ij];omega) (by omega) (by omega) ⟨hS.node,hS.len,hS.e,hS.pu,by rw[ij];exact hS.H⟩;by_cases hc:2*i+1+1<a.length∧CT (dB a (2*i+1+1)) (dB a (2*i+1))=true
   ·have hk:=VY hc;have hd:decide (((2*i+1+1:Nat):Int)<((mJ a).length:Int))=true:=by simp;omega
    rw[hd];rw[hk]at R9 hk3 GD fin k1⊢;simp only[cond_true,tc a pu (2*i+1+1) (2*i+1) (by omega) (by omega),hc.2,U,asBool,IS,tc a pu (2*i+1+1) i k1 oc];by_cases hb:CT (dB a (2*i+1+1)) (dB a i)=true
    ·rw[AI hb]at*;simp only[hb,aiK,cT,T1,AI (CV hi1),AI (CV R9),AI (CV hk3),aiP,fh oc,fh k1,U,ndE,GD,ID];exact fin
    ·rw[By hb];have gN:(!CT (dB a (2*i+1+1)) (dB a i))=true:=by simpa using hb
     rw[AI gN];exact xb hG cJ o x pu a hS _
   ·have hk:=S4 hc;have hd:(bif decide (((2*i+1+1:Nat):Int)<((mJ a).length:Int))then(aN [.rp [.fn 262 [],.rs 4 (mJ a),.int .i64 (pu:Int)],.int .i64 ((2*i+1+1:Nat):Int),.int .i64 ((2*i+1:Nat):Int)]).bind fun XX=>(asBool XX).bind fun b54=>some b54 else some false)=some false:=by
     by_cases h2:2*i+1+1<a.length
     ·have hd:decide (((2*i+1+1:Nat):Int)<((mJ a).length:Int))=true:=by simp;omega
      have hb:CT (dB a (2*i+1+1)) (dB a (2*i+1))=false:=by
       cases hb:CT (dB a (2*i+1+1)) (dB a (2*i+1))with
       |false=>rfl
       |true=>exact absurd ⟨h2,hb⟩ hc
      rw[hd,cond_true,tc a pu (2*i+1+1) (2*i+1) h2 (by omega),U,hb];rfl
     ·have hd:decide (((2*i+1+1:Nat):Int)<((mJ a).length:Int))=false:=by simp;omega
      rw[hd];rfl
    rw[hd];rw[hk]at R9 hk3 GD fin k1⊢;simp only[U,asBool,cT,T1,tc a pu (2*i+1) i k1 oc];by_cases hb:CT (dB a (2*i+1)) (dB a i)=true
    ·rw[AI hb]at*;simp only[hb,aiK,cT,T1,AI (CV hi1),AI (CV R9),AI (CV hk3),aiP,fh oc,fh k1,U,ndE,GD,ID];exact fin
    ·rw[By hb];have gN:(!CT (dB a (2*i+1)) (dB a i))=true:=by simpa using hb
     rw[AI gN];exact xb hG cJ o x pu a hS _
end
section
variable {E:List Ed} {n:Nat} {ks vs:List PV}
theorem S5(hG:Gr E n ks vs)(cJ:PV×List PV×Int×List PV×Unit→Option PV)(o:nd)(pu:Nat)(H:List Nd)(hS:∀x∈H,Sm n E x pu H):dO bl (.rm 3 ks vs,dF n o,(pu:Int),mJ H,()) cJ=if H.length=0 then some (.rs 3 (dF n o))else KR cJ E n ks vs o (dB H 0) pu (rest H):=by
 unfold dO;dsimp only;by_cases h0:H.length=0
 ·have hg:(((mJ H).length:Int)==0)=true:=by rw[ahj,h0];rfl
  rw[AI hg,AI h0]
 ·have hg:¬(((mJ H).length:Int)==0)=true:=by simp;intro h;exact h0 (by rw[h];rfl)
  rw[By hg,By h0];have hx:dB H 0∈H:=Be.2 ⟨0,by omega,rfl⟩;have hsm:=hS _ hx;have hH:=hsm.H;have hl:((mJ H).length:Int)=(H.length:Int):=by simp
  have e1:IntKind.i64.wrap ((H.length:Int)-1)=((H.length-1:Nat):Int):=by rw[dU (by omega) (by omega)];omega
  have i0:aj (0:Int) (mJ H).length:=CV (i:=0) (by simp;omega);have hl1:H.length-1<(mJ H).length:=by simp;omega
  have hl3:H.length-1<((mJ H).set 0 (dB H (H.length-1)).pv).length:=by simp;omega
  have g0:(mJ H)[0]?=some (dB H 0).pv:=fh (by omega);have gl:(mJ H)[H.length-1]?=some (dB H (H.length-1)).pv:=fh (by omega);have g3:∃q,((mJ H).set 0 (dB H (H.length-1)).pv)[H.length-1]?=some q:=⟨_,cO hl3⟩;obtain⟨q,g3⟩:=g3;have z0:Int.toNat 0=0:=rfl;have jN:(0:Int)≤0∧0≤((H.length-1:Nat):Int)∧((H.length-1:Nat):Int)≤(((((mJ H).set 0 (dB H (H.length-1)).pv).set (H.length-1) (dB H 0).pv).length:Nat):Int):=by refine⟨by omega,by omega,?_⟩;simp only[ako,ahj];omega
  simp only[hl,e1,AI i0,z0,g0,U,AI (CV hl1),aiP,gl,ndE,AI (CV hl3),g3,and_true,AI jN,alz];simp only[nd0,nd1,nd2,ID,←alv,nu];rw[AI (by refine⟨by omega,by omega,?_⟩;simp only[ahj,ij];omega)];have:=GG hG cJ o (dB H 0) pu 0 0 0 (H.length+1) rounds (Ps H) 0 (by simp[Ps];omega) (by unfold rounds;omega) (by omega) ⟨hsm.node,hsm.len,hsm.e,hsm.pu,by simp[Ps];omega⟩;exact this
theorem DI.small{s B:Nat}{o:nd}{pu:Nat}{H:List Nd}(h:DI E n s B o pu H)(hG:Gr E n ks vs)(hB:B≤1073741824)(hn:n≤64):∀x∈H,Sm n E x pu H:=fun x hx=>by have h1:=h.VV x hx;have h2:=Rn n o;have h3:B*Fu n o≤1073741824*64:=aks hB (by omega);have h4:=h.cnt;have h5:=h.aaP;have h6:=hG.len;exact⟨h.node x hx,by omega,by omega,by omega,by omega⟩
theorem S6(hG:Gr E n ks vs){s B:Nat}(hs:s<n)(hB:B≤1073741824)(hEB:∀y∈E,y.c≤B)(hn:n≤64):∃o pu,DI E n s B o pu []∧bl.run (dO bl) (.rm 3 ks vs,dF n (fun _=>none),1,[PV.agg [.int .i64 s,.int .i64 0,.int .i64 0,.int .i64 0]],())=some (.rs 3 (dF n o)):=by
 have hE:∀y∈E,y.f<n∧y.t<n∧y.c≤B:=fun y hy=>⟨(hG.node y hy).1,(hG.node y hy).2.1,hEB y hy⟩;have hlen:=hG.len;obtain⟨a,r,hI,⟨h0,hr⟩,ob⟩:=S1 (body:=dO bl) (A:=nd×Nat×List Nd) (fun a=>(PV.rm 3 ks vs,dF n a.1,(a.2.1:Int),mJ a.2.2,())) (fun a=>DI E n s B a.1 a.2.1 a.2.2) (fun a=>a.2.2.length+uQ E a.1) (fun a r=>a.2.2=[]∧r=some (.rs 3 (dF n a.1))) (fun a hI cJ=>by
  obtain⟨o,pu,H⟩:=a;have hI:DI E n s B o pu H:=hI;dsimp only;rw[S5 hG cJ o pu H (hI.small hG hB hn)];by_cases hH:H.length=0
  ·right;rw[AI hH];exact⟨_,⟨ahk hH,rfl⟩,rfl⟩
  ·left;rw[By hH];have dh:0<H.length:=by omega
   unfold KR;by_cases vz:(o (dB H 0).n).isSome=true
   ·rw[AI vz];refine⟨(o,pu,rest H),hI.skip dh vz,?_,rfl⟩;have:=(IB hI.hp dh).2.1;dsimp only;omega
   ·rw[By vz];have BV:o (dB H 0).n=none:=by simpa using vz
    obtain⟨s1,s2⟩:=hI.settle hE dh BV;exact⟨(_,_,_),s1,s2,rfl⟩) rounds ((fun _=>none),1,[⟨s,0,0,0⟩]) (DI.start hs) (by
  have:uQ E (fun _=>none)≤E.length:=aku;simp only[aiV,aji];unfold rounds;omega)
 obtain⟨o,pu,H⟩:=a;dsimp only at h0 hr hI;subst h0;refine⟨o,pu,hI,?_⟩;rw[nu,←hr,←ob];rfl
theorem S7(hG:Gr E n ks vs){s B:Nat}(hs:s<n)(hB:B≤1073741824)(hEB:∀y∈E,y.c≤B)(hn:n≤64):∃o pu,DI E n s B o pu []∧eQ [.int .i64 n,.rm 3 ks vs,.int .i64 s]=some (.rs 3 (dF n o)):=by
 obtain⟨o,pu,hI,h⟩:=S6 hG hs hB hEB hn;refine⟨o,pu,hI,?_⟩;have gn:(0:Int)≤(n:Int)∧(n:Int)≤(n:Int)∧n*24≤ar∧0<24∧0<3:=by refine⟨by omega,by omega,?_,by omega,by omega⟩;unfold ar;omega
 simp only[eQ,oz,E6,U,df,IS,AI gn,aiP,ajF];have fill:∀k,k≤n→((List.range n).map fun v=>if v<k then rK v none else PV.agg [.int .i64 0,.int .i64 0,.int .i64 0]).length=n:=fun k _=>by simp
 refine bV (fun k=>(PV.rm 3 ks vs,(s:Int),(n:Int),(k:Int),(List.range n).map (fun v=>if v<k then rK v none else PV.agg [.int .i64 0,.int .i64 0,.int .i64 0]),())) n (fun k hk rec=>?_) (fun rec=>?_) (by unfold rounds;omega) ?_
 ·unfold gu;dsimp only;have hg:decide ((k:Int)<(n:Int))=true:=by simp;omega
  have uW:aj (k:Int) ((List.range n).map fun v=>if v<k then rK v none else PV.agg [.int .i64 0,.int .i64 0,.int .i64 0]).length:=CV (by rw[fill k (by omega)];exact hk);have fh:((List.range n).map fun v=>if v<k then rK v none else PV.agg [.int .i64 0,.int .i64 0,.int .i64 0])[k]?=some (PV.agg [.int .i64 0,.int .i64 0,.int .i64 0]):=by simp[hk]
  have vz:((List.range n).map fun v=>if v<k then rK v none else PV.agg [.int .i64 0,.int .i64 0,.int .i64 0]).set k (.agg [.int .i64 k,.int .i64 (-1),.int .i64 (-1)])=(List.range n).map fun v=>if v<k+1 then rK v none else PV.agg [.int .i64 0,.int .i64 0,.int .i64 0]:=by
   apply aiY;intro i;rw[ai9];by_cases e:k=i
   ·subst e;simp[hk,rK]
   ·rw[By e];by_cases hi:i<n
    ·simp only[GP,ajK hi,aff];by_cases h1:i<k
     ·rw[AI h1,AI (by omega)]
     ·rw[By h1,By (by omega)]
    ·rw[ahl (by simp;omega),ahl (by simp;omega)]
  rw[AI hg,AI uW,aiP,fh,U,vz,aO (by omega)]
 ·unfold gu;dsimp only;have hg:¬decide ((n:Int)<(n:Int))=true:=by simp
  have e0:IntKind.i64.wrap ((1:Nat)-1:Int)=0:=by decide
  have e1:IntKind.i64.wrap (0+1)=1:=by decide
  have Nf:((List.range n).map fun v=>if v<n then rK v none else PV.agg [.int .i64 0,.int .i64 0,.int .i64 0])=dF n (fun _=>none):=by unfold dF;apply ai7;intro v hv;rw[AI (ajV.1 hv)]
  rw[By hg,Nf,e1];refine Eq.trans ?_ h;have first:∀N,cZ (gv bl) (N+1) (IntKind.i64.wrap (((1:Nat):Int)-1),PV.rm 3 ks vs,1,dF n (fun _=>none),[PV.agg [.int .i64 s,.int .i64 0,.int .i64 0,.int .i64 0]],())=bl.run (dO bl) (.rm 3 ks vs,dF n (fun _=>none),1,[PV.agg [.int .i64 s,.int .i64 0,.int .i64 0,.int .i64 0]],()):=fun N=>by
   simp only[cZ];generalize cZ (gv bl) N=rec;unfold gv;dsimp only;have hg:decide (IntKind.i64.wrap (((1:Nat):Int)-1)>0)=false:=by decide
   rw[hg,cond_false,U,By (by simp)]
  exact first 18446744073709551615
 ·congr 1;have:((List.range n).map fun v=>if v<0 then rK v none else PV.agg [.int .i64 0,.int .i64 0,.int .i64 0])=List.replicate n (PV.agg [.int .i64 0,.int .i64 0,.int .i64 0]):=by
   apply aiY;intro i;by_cases hi:i<n
   ·simp[hi,ajx]
   ·rw[ahl (by simp;omega),ahl (by simp;omega)]
  rw[this];rfl
end
theorem Yi{S R:Type}{body:S→(S→Option R)→Option R}{s:S}{r:Option R}(h:∀rec,body s rec=r):bl.run body s=r:=bV (fun _=>s) 0 (fun k hk=>by omega) h (by unfold rounds;omega) rfl
def rL(n k:Nat)(F:Nat→PV)(z:PV):List PV:=(List.range n).map fun v=>if v<k then F v else z
theorem K7(n k:Nat)(F:Nat→PV)(z:PV):(rL n k F z).length=n:=by simp[rL]
theorem K8{n k:Nat}{F:Nat→PV}{z:PV}(hk:k<n):(rL n k F z)[k]?=some z:=by simp[rL,hk]
theorem K9{n k:Nat}{F:Nat→PV}{z:PV}(hk:k<n):(rL n k F z).set k (F k)=rL n (k+1) F z:=by
 apply aiY;intro i;rw[ai9];by_cases e:k=i
 ·subst e;simp[rL,hk]
 ·rw[By e];unfold rL;by_cases hi:i<n
  ·simp only[GP,ajK hi,aff];by_cases h1:i<k
   ·rw[AI h1,AI (by omega)]
   ·rw[By h1,By (by omega)]
  ·rw[ahl (by simp;omega),ahl (by simp;omega)]
theorem GH(n:Nat)(F:Nat→PV)(z:PV):rL n 0 F z=List.replicate n z:=by
 unfold rL;apply aiY;intro i;by_cases hi:i<n
 ·simp[hi,ajx]
 ·rw[ahl (by simp;omega),ahl (by simp;omega)]
theorem La(n:Nat)(F:Nat→PV)(z:PV):rL n n F z=(List.range n).map F:=by unfold rL;apply ai7;intro v hv;rw[AI (ajV.1 hv)]
def IE:Lab→Int
 |none=> -1
 |some (L,_)=>L
theorem ag9(v:Nat)(l:Lab):asInt .i64 (cell (rK v l) 1)=some (IE l):=by
 cases l with
 |none=>rfl
 |some p=>obtain⟨L,e⟩:=p;rfl
theorem Pt(n:Nat)(hn:n≤64)(o:nd):fE [.rs 3 (dF n o)]=some (.rs 1 ((List.range n).map fun v=>.int .i64 (IE (o v)))):=by
 have e0:ay 3 (.rs 3 (dF n o))=some (dF n o):=by simp[ay]
 have gn:(0:Int)≤((n:Nat):Int)∧((n:Nat):Int)≤((n:Nat):Int)∧n*8≤ar∧0<8∧0<1:=by refine⟨by omega,by omega,?_,by omega,by omega⟩;unfold ar;omega
 simp only[fE,mZ,e0,U,pD,aiP,AI gn];refine bV (fun k=>(dF n o,(n:Int),(k:Int),rL n k (fun v=>.int .i64 (IE (o v))) (.int .i64 0),())) n (fun k hk rec=>?_) (fun rec=>?_) (by unfold rounds;omega) ?_
 ·unfold jY;dsimp only;have hg:decide ((k:Int)<(n:Int))=true:=by simp;omega
  rw[AI hg,aU,pE o hk,U,ag9,U,AI (CV (by rw[K7];exact hk)),aiP,K8 hk,U,aO (by omega)];rw[K9 (F:=fun v=>PV.int .i64 (IE (o v))) hk]
 ·unfold jY;dsimp only;rw[By (by simp),La]
 ·rw[GH];rfl
theorem VZ(i n:Nat)(h:i<n):dv [.int .i64 i,.rp [.int .i64 n]]=some (.bool false):=by
 have h1:decide ((i:Int)<0)=false:=by simp
 have h2:decide ((i:Int)≥(n:Int))=false:=by simp;omega
 simp only[dv,mY,E6,U,h1,cond_false,h2]
theorem ed0(y:Ed):cell y.pv 0=.int .i64 y.f:=rfl
theorem V0(E:List Ed)(n:Nat)(hn:n≤64)(hE:E.length≤4096)(h:∀y∈E,y.f<n∧y.t<n∧y.c≤1073741824):gI [.int .i64 n,.rs 3 (E.map Ed.pv),.rs 0 []]=some (.int .i64 0):=by
 have e0:ay 3 (.rs 3 (E.map Ed.pv))=some (E.map Ed.pv):=by simp[ay]
 have e1:ay 1 (.rs 0 [])=some []:=by simp[ay]
 have h1:decide ((n:Int)<0)=false:=by simp
 have h2:decide ((n:Int)>64)=false:=by simp;omega
 have h3:¬decide (((E.map Ed.pv).length:Int)>4096)=true:=by simp;omega
 simp only[gI,qy,E6,e0,e1,U,h1,h2,cond_false,cT,T1,By h3];refine bV (fun k=>(([]:List PV),E.map Ed.pv,((E.map Ed.pv).length:Int),(k:Int),(n:Int),())) E.length (fun k hk rec=>?_) (fun rec=>?_) (by unfold rounds;omega) rfl
 ·unfold mq;dsimp only;have hg:decide ((k:Int)<((E.map Ed.pv).length:Int))=true:=by simp;omega
  obtain⟨z,hz⟩:∃z,E[k]?=some z:=⟨_,cO hk⟩;have Fi:(E.map Ed.pv)[k]?=some z.pv:=by rw[GP,hz];rfl
  obtain⟨a1,a2,a3⟩:=h z (abV hz);have h4:decide ((z.c:Int)<0)=false:=by simp
  have h5:decide ((z.c:Int)>1073741824)=false:=by simp;omega
  simp only[hg,IS,aU,Fi,U,ed0,ed1,ed2,E6,VZ _ _ a1,VZ _ _ a2,asBool,cond_false,cT,T1,h4,h5,aO (show k<9223372036854775807 by omega)]
 ·unfold mq;dsimp only;rw[By (by simp)];refine Yi fun rec=>?_;unfold rM;dsimp only;rw[By (by simp)]
abbrev IF:=List (Nat×List Ed)
def IG(z:Ed):IF→IF
 |[]=>[(z.f,[z])]
 |(a,l)::r=>if z.f=a then(a,l++[z])::r else(a,l)::IG z r
def nY(v:Nat):IF→List Ed
 |[]=>[]
 |(a,l)::r=>if v=a then l else nY v r
def GI(m:IF):List (PV×PV):=m.map fun x=>(.int .i64 x.1,.oX 3 (x.2.map Ed.pv))
theorem V1(a b:Nat):dr (PV.int .i64 a).cells (PV.int .i64 b).cells=decide (a=b):=by
 have:((a:Int)==(b:Int))=decide (a=b):=by
  by_cases h:a=b
  ·simp[h]
  ·rw[aj8 h,ajf];omega
 simp only[PV.cells,dr,peq,akb,this]
theorem adA(v:Nat):∀m:IF,Jt 3 (.int .i64 v) (GI m)=some ((nY v m).map Ed.pv)
 |[]=>rfl
 |(a,l)::r=>by
  have ih:=adA v r;unfold GI at ih⊢;simp only[aiL,Jt,nY,V1];by_cases h:v=a
  ·simp[h,eL]
  ·simp only[h,aiS,cT,T1];exact ih
theorem Rq(z:Ed):∀m:IF,dE (.int .i64 z.f) (.oX 3 ((nY z.f m).map Ed.pv++[z.pv])) (q9 (.int .i64 z.f) (GI m))=GI (IG z m)
 |[]=>by simp[GI,q9,dE,IG,nY]
 |(a,l)::r=>by
  have ih:=Rq z r;unfold GI at ih⊢;simp only[aiL,q9,IG,nY,V1];by_cases h:z.f=a
  ·subst h;simp[dE,V1]
  ·simp only[h,aiS,cT,T1,dE,V1,aiL];rw[ih]
theorem GJ(v:Nat)(z:Ed):∀m:IF,nY v (IG z m)=nY v m++(if z.f=v then[z]else[])
 |[]=>by
  simp only[IG,nY];by_cases h:v=z.f
  ·simp[h]
  ·rw[By h,By fun e=>h e.symm];rfl
 |(a,l)::r=>by
  simp only[IG];by_cases h:z.f=a
  ·subst h;simp only[IS,nY];by_cases hv:v=z.f
   ·simp[hv]
   ·rw[By hv,By hv,By fun e=>hv e.symm];simp
  ·rw[By h];simp only[nY];by_cases hv:v=a
   ·subst hv;rw[AI rfl,AI rfl,By h];simp
   ·rw[By hv,By hv];exact GJ v z r
def xh(E:List Ed):IF:=E.foldl (fun m z=>IG z m) []
theorem GK(E:List Ed)(z:Ed):xh (E++[z])=IG z (xh E):=by simp[xh]
theorem GL(v:Nat)(E:List Ed):nY v (xh E)=E.filter fun y=>y.f==v:=by
 rw[←akE E];induction E.reverse with
 |nil=>rfl
 |cons z l ih=>
  rw[ak1,GK,GJ,ih,akn];by_cases h:z.f=v
  ·simp[h]
  ·simp[h]
theorem adB(v:Nat):∀m:IF,ay 3 (cH (.int .i64 v) (.rs 0 []) (((GI m).map fun x=>x.1).zip ((GI m).map fun x=>x.2.mR)))=some ((nY v m).map Ed.pv)
 |[]=>by simp[GI,cH,ay,nY]
 |(a,l)::r=>by
  have ih:=adB v r;unfold GI at ih⊢;simp only[aiL,akR,cH,V1,nY];by_cases h:v=a
  ·simp[h,PV.mR,ay]
  ·simp only[h,aiS,cT,T1];exact ih
theorem IH(E:List Ed)(hE:E.length≤4096):eF [.rs 3 (E.map Ed.pv),.bool false]=some (.rm 3 ((GI (xh E)).map fun x=>x.1) ((GI (xh E)).map fun x=>x.2.mR)):=by
 have e0:ay 3 (.rs 3 (E.map Ed.pv))=some (E.map Ed.pv):=by simp[ay]
 simp only[eF,kV,e0,U,asBool];refine bV (fun k=>(false,E.map Ed.pv,((E.map Ed.pv).length:Int),(k:Int),GI (xh (E.take k)),())) E.length (fun k hk rec=>?_) (fun rec=>?_) (by unfold rounds;omega) (by simp[xh,GI])
 ·unfold iF;dsimp only;have hg:decide ((k:Int)<((E.map Ed.pv).length:Int))=true:=by simp;omega
  obtain⟨z,hz⟩:∃z,E[k]?=some z:=⟨_,cO hk⟩;have Fi:(E.map Ed.pv)[k]?=some z.pv:=by rw[GP,hz];rfl
  have htk:E.take (k+1)=E.take k++[z]:=by rw[akX,hz];rfl
  have hce:PV.agg [cell z.pv 0,cell z.pv 1,cell z.pv 2]=z.pv:=rfl;have hlen:((nY z.f (xh (E.take k))).map Ed.pv++[z.pv]).length*24≤ar∧0<24:=by
   have:(nY z.f (xh (E.take k))).length≤E.length:=by rw[GL];exact ajq (ali ..) (by rw[ajo];omega)
   simp only[ai1,ahj,aiV,aji];unfold ar;omega
  rw[AI hg,aU,Fi,U,By (by simp)];have aha:PV.agg [.int .i64 z.f,cell z.pv 1,cell z.pv 2]=z.pv:=rfl;simp only[ed0,E6,U,adA,aha,AI hlen];rw[Rq,htk,GK,aO (by omega)]
 ·unfold iF;dsimp only;rw[By (by simp),ajy]
theorem V2(E:List Ed)(n:Nat)(hn:n≤64)(hE:E.length≤4096)(h:∀y∈E,y.f<n∧y.t<n∧y.c≤1073741824):Gr E n ((GI (xh E)).map fun x=>x.1) ((GI (xh E)).map fun x=>x.2.mR):=⟨by omega,by omega,h,fun v _=>by rw[adB,GL]⟩
end Go.Ab.Nw
