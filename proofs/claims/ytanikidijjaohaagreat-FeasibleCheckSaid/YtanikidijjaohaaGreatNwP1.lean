import Derived.Test.YtanikidijjaohaaGreatAbLib
import Derived.Test.YtanikidijjaohaaGreatSh2
namespace Go.Ab.Nw
section
variable (w:Nat→Nat→Nat→Prop)
def BR:Nat→Nat→Nat→Nat→Prop
 |0,i,j,L=>w i j L
 |k+1,i,j,L=>BR k i j L∨∃A B,BR k i k A∧BR k k j B∧L=A+B
inductive kC:Nat→Nat→Nat→Prop
 |Eg {i j c:Nat}:w i j c→kC i j c
 |snoc {i m j A c:Nat}:kC i m A→w m j c→kC i j (A+c)
end
section
variable {w:Nat→Nat→Nat→Prop}
variable{i j L:Nat}
theorem BR.up{k:Nat}(h:BR w k i j L):BR w (k+1) i j L:=.inl h
theorem BR.le{k k':Nat}(hk:k≤k')(h:BR w k i j L):BR w k' i j L:=by
 induction hk with
 |refl=>exact h
 |step _ ih=>exact ih.up
theorem zx:∀(k:Nat){m i j A B:Nat},m<k→BR w k i m A→BR w k m j B→∃C,C≤A+B∧BR w k i j C
 |0,_,_,_,_,_,h,_,_=>by omega
 |k+1,m,i,j,A,B,h,ha,hb=>by
  by_cases hm:m=k
  ·subst hm;have h1:∃A',A'≤A∧BR w m i m A':=by
    rcases ha with ha|⟨X,Y,x,y,e⟩
    ·exact⟨A,agM _,ha⟩
    ·exact⟨X,by omega,x⟩
   have h2:∃B',B'≤B∧BR w m m j B':=by
    rcases hb with hb|⟨X,Y,x,y,e⟩
    ·exact⟨B,agM _,hb⟩
    ·exact⟨Y,by omega,y⟩
   obtain⟨A',a1,a2⟩:=h1;obtain⟨B',b1,b2⟩:=h2;exact⟨A'+B',by omega,.inr ⟨A',B',a2,b2,rfl⟩⟩
  ·have bS:m<k:=by omega
   rcases ha with ha|⟨X,Y,x,y,e⟩
   ·rcases hb with hb|⟨X',Y',x',y',e'⟩
    ·obtain⟨C,c1,c2⟩:=zx k bS ha hb;exact⟨C,c1,.inl c2⟩
    ·obtain⟨C,c1,c2⟩:=zx k bS ha x';exact⟨C+Y',by omega,.inr ⟨C,Y',c2,y',rfl⟩⟩
   ·rcases hb with hb|⟨X',Y',x',y',e'⟩
    ·obtain⟨C,c1,c2⟩:=zx k bS y hb;exact⟨X+C,by omega,.inr ⟨X,C,x,c2,rfl⟩⟩
    ·exact⟨X+Y',by omega,.inr ⟨X,Y',x,y',rfl⟩⟩
theorem kC.join{m A B:Nat}(h1:kC w i m A)(h2:kC w m j B):kC w i j (A+B):=by
 induction h2 with
 |Eg h=>exact .snoc h1 h
 |snoc _ h ih=>rw[←ahm];exact .snoc ih h
theorem BR.walk:∀{k i j L:Nat},BR w k i j L→kC w i j L
 |0,_,_,_,h=>.Eg h
 |k+1,i,j,L,.inl h=>BR.walk (k:=k) h
 |k+1,i,j,L,.inr ⟨A,B,h1,h2,e⟩=>by rw[e];exact(BR.walk (k:=k) h1).join (BR.walk (k:=k) h2)
theorem kC.via{n:Nat}(hn:∀i j c,w i j c→i<n)(h:kC w i j L):∃C,C≤L∧BR w n i j C:=by
 induction h with
 |Eg h=>exact⟨_,agM _,BR.le (ajr _) (show BR w 0 _ _ _ from h)⟩
 |snoc _ h ih=>obtain⟨C,c1,c2⟩:=ih;obtain⟨D,d1,d2⟩:=zx n (hn _ _ _ h) c2 (BR.le (ajr _) (show BR w 0 _ _ _ from h));exact⟨D,by omega,d2⟩
variable{w':Nat→Nat→Nat→Prop}
theorem kC.mono(hw:∀i j c,w i j c→w' i j c)(h:kC w i j L):kC w' i j L:=by
 induction h with
 |Eg h=>exact .Eg (hw _ _ _ h)
 |snoc _ h ih=>exact .snoc ih (hw _ _ _ h)
theorem kC.leq(hw:∀i j c,w i j c→∃c',c'≤c∧w' i j c')(h:kC w i j L):∃L',L'≤L∧kC w' i j L':=by
 induction h with
 |Eg h=>obtain⟨c',h1,h2⟩:=hw _ _ _ h;exact⟨c',h1,.Eg h2⟩
 |snoc _ h ih=>obtain⟨c',h1,h2⟩:=hw _ _ _ h;obtain⟨L',l1,l2⟩:=ih;exact⟨L'+c',by omega,.snoc l2 h2⟩
def Qd(w:Nat→Nat→Nat→Prop)(i j:Nat)(o:Option Nat):Prop:=match o with
 |some L=>kC w i j L∧∀L',kC w i j L'→L≤L'
 |none=>∀L',¬kC w i j L'
theorem Qd.unique{o o':Option Nat}(h:Qd w i j o)(h':Qd w i j o'):o=o':=by
 cases o with
 |none=>cases o' with
  |none=>rfl
  |some L=>exact absurd h'.1 (h L)
 |some L=>cases o' with
  |none=>exact absurd h.1 (h' L)
  |some L'=>rw[Nat.le_antisymm (h.2 _ h'.1) (h'.2 _ h.1)]
structure Fw(w:Nat→Nat→Nat→Prop)(inf:Nat)(n:Nat)(d:Nat→Nat→Nat):Prop where
 top:∀i j,i<n→j<n→d i j≤inf
 real:∀i j,i<n→j<n→d i j<inf→kC w i j (d i j)
def qP(w:Nat→Nat→Nat→Prop)(k i j:Nat)(x:Nat):Prop:=∀L,BR w k i j L→x≤L
variable{d:Nat→Nat→Nat}
theorem Xd{inf n k:Nat}(h:Fw w inf n d)(hi:i<n)(hj:j<n)(hk:k<n){x:Nat}(hx:x=min (d i j) (d i k+d k j)){d':Nat→Nat→Nat}(hd:∀a b,d' a b=if a=i∧b=j then x else d a b):Fw w inf n d'∧(∀a b,d' a b≤d a b)∧(qP w k i k (d i k)→qP w k k j (d k j)→qP w k i j (d i j)→qP w (k+1) i j (d' i j)):=by
 refine⟨⟨fun a b ha hb=>?_,fun a b ha hb bS=>?_⟩,fun a b=>?_,fun h1 h2 h3 L hL=>?_⟩
 ·rw[hd];split
  ·have:=h.top i j hi hj;omega
  ·exact h.top a b ha hb
 ·rw[hd]at bS⊢;split
  ·rename_i e;rw[BY e]at bS;obtain⟨rfl,rfl⟩:=e;by_cases hm:d a b≤d a k+d k b
   ·rw[show x=d a b by omega]at bS⊢;exact h.real a b ha hb bS
   ·have e2:x=d a k+d k b:=by omega
    rw[e2]at bS⊢;exact(h.real a k ha hk (by omega)).join (h.real k b hk hb (by omega))
  ·rename_i e;rw[IN e]at bS;exact h.real a b ha hb bS
 ·rw[hd];split
  ·rename_i e;obtain⟨rfl,rfl⟩:=e;omega
  ·exact agM _
 ·rw[hd,BY ⟨rfl,rfl⟩];rcases hL with hL|⟨A,B,a1,a2,e⟩
  ·have:=h3 _ hL;omega
  ·have:=h1 _ a1;have:=h2 _ a2;omega
theorem Xe{inf n:Nat}(hn:∀i j c,w i j c→i<n)(h:Fw w inf n d)(hi:i<n)(hj:j<n)(hb:qP w n i j (d i j))(oz:∀L,(∀L',kC w i j L'→L≤L')→kC w i j L→L<inf):Qd w i j (if d i j<inf then some (d i j)else none):=by
 have low:∀L,kC w i j L→d i j≤L:=fun L hL=>by obtain⟨C,c1,c2⟩:=hL.via hn;exact ahl (hb C c2) c1
 split
 ·rename_i bS;exact⟨h.real i j hi hj bS,low⟩
 ·rename_i EF;intro L hL;have key:∀m,(∃L,L≤m∧kC w i j L)→∃L,kC w i j L∧∀L',kC w i j L'→L≤L':=by
   intro m;induction m with
   |zero=>rintro⟨L,hl,hw⟩;exact⟨L,hw,fun L' _=>by omega⟩
   |succ m ih=>
    rintro⟨L,hl,hw⟩;by_cases he:∃L,L≤m∧kC w i j L
    ·exact ih he
    ·refine⟨L,hw,fun L' hw'=>?_⟩;have:¬L'≤m:=fun hle=>he ⟨L',hle,hw'⟩;omega
  obtain⟨L0,h1,h2⟩:=key L ⟨L,agM _,hL⟩;have:=oz L0 h2 h1;have:=low L0 h1;omega
end
structure Nd where
 n:Nat
 len:Nat
 e:Nat
 num:Nat
 deriving DecidableEq,Inhabited
def Cd(a b:Nd):Bool:=decide (a.len<b.len∨(a.len=b.len∧(a.e<b.e∨(a.e=b.e∧a.num<b.num))))
def ue(a b:Nd):Prop:=Cd b a=false
theorem Qe(a b:Nd):Cd a b=true↔(a.len<b.len∨(a.len=b.len∧(a.e<b.e∨(a.e=b.e∧a.num<b.num)))):=by simp[Cd]
theorem zy(a b:Nd):ue a b↔¬(b.len<a.len∨(b.len=a.len∧(b.e<a.e∨(b.e=a.e∧b.num<a.num)))):=by unfold ue;rw[←Qe];simp
theorem AL(a:Nd):ue a a:=by rw[zy];omega
theorem uf{a b c:Nd}(h:ue a b)(k:ue b c):ue a c:=by rw[zy]at*;omega
theorem vZ{a b:Nd}(h:Cd a b=true):ue a b:=by rw[zy];rw[Qe]at h;omega
theorem UX{a b:Nd}(h:ue a b):a.len≤b.len:=by rw[zy]at h;omega
def dB(a:List Nd)(i:Nat):Nd:=a.getD i default
variable{a:List Nd}{i:Nat}
theorem HC(h:i<a.length):a[i]?=some (dB a i):=by simp[dB,List.getD,h]
def swp(a:List Nd)(i k:Nat):List Nd:=(a.set i (dB a k)).set k (dB a i)
@[simp] theorem iD(a:List Nd)(i k:Nat):(swp a i k).length=a.length:=by simp[swp]
theorem UY(a:List Nd)(i j:Nat)(x:Nd)(h:i<a.length):dB (a.set i x) j=if j=i then x else dB a j:=by
 unfold dB List.getD;rw[ahb];by_cases e:i=j
 ·subst e;simp[h]
 ·rw[IN e,IN fun h=>e h.symm]
theorem mI(a:List Nd)(i k j:Nat)(hi:i<a.length)(hk:k<a.length):dB (swp a i k) j=if j=k then dB a i else if j=i then dB a k else dB a j:=by unfold swp;rw[UY _ _ _ _ (by simpa using hk),UY _ _ _ _ hi]
theorem AM{x:Nd}:x∈a↔∃i,i<a.length∧dB a i=x:=by
 rw[ahn];constructor
 ·rintro⟨i,h⟩;have hi:=(HO.1 h).1;rw[HC hi]at h;exact⟨i,hi,by simpa using h⟩
 ·rintro⟨i,hi,h⟩;exact⟨i,by rw[HC hi,h]⟩
theorem Ce{k:Nat}(hi:i<a.length)(hk:k<a.length)(x:Nd):x∈swp a i k↔x∈a:=by
 rw[AM,AM];constructor
 ·rintro⟨j,hj,h⟩;rw[mI _ _ _ _ hi hk]at h;split at h
  ·exact⟨i,hi,h⟩
  ·split at h
   ·exact⟨k,hk,h⟩
   ·exact⟨j,by simpa using hj,h⟩
 ·rintro⟨j,hj,h⟩;by_cases e1:j=i
  ·subst e1;refine⟨k,by simpa using hk,?_⟩;rw[mI _ _ _ _ hi hk,BY rfl,h]
  ·by_cases e2:j=k
   ·subst e2;refine⟨i,by simpa using hi,?_⟩;rw[mI _ _ _ _ hi hk];split
    ·rename_i e;exact absurd e.symm e1
    ·rw[BY rfl,h]
   ·exact⟨j,by simpa using hj,by rw[mI _ _ _ _ hi hk,IN e2,IN e1,h]⟩
def Hp(a:List Nd):Prop:=∀j,0<j→j<a.length→ue (dB a ((j-1)/2)) (dB a j)
theorem Hp.min(h:Hp a):∀j,j<a.length→ue (dB a 0) (dB a j):=by
 intro j;induction j using Nat.strongRecOn with
 |ind j ih=>
  intro hj;by_cases h0:j=0
  ·subst h0;exact AL _
  ·exact uf (ih ((j-1)/2) (by omega) (by omega)) (h j (by omega) hj)
def Xf(a:List Nd)(i:Nat):Prop:=(∀j,0<j→j<a.length→j≠i→ue (dB a ((j-1)/2)) (dB a j))∧∀c,0<c→c<a.length→(c-1)/2=i→0<i→ue (dB a ((i-1)/2)) (dB a c)
theorem Xf.done(h:Xf a i)(hi:i<a.length)(hs:i=0∨Cd (dB a i) (dB a ((i-1)/2))=false):Hp a:=by
 intro j h0 hj;by_cases e:j=i
 ·subst e;rcases hs with hs|hs
  ·omega
  ·exact hs
 ·exact h.1 j h0 hj e
theorem Xf.step(h:Xf a i)(h0:0<i)(hi:i<a.length)(hb:Cd (dB a i) (dB a ((i-1)/2))=true):Xf (swp a i ((i-1)/2)) ((i-1)/2):=by
 have hp:(i-1)/2<a.length:=by omega
 have hpi:(i-1)/2<i:=by omega
 obtain⟨p,EI⟩:∃p,p=(i-1)/2:=⟨_,rfl⟩;rw[←EI]at hp hpi hb⊢;have hle:=vZ hb;refine⟨fun j j0 hj cL=>?_,fun c c0 hc hcp GJ=>?_⟩
 ·rw[iD]at hj;rw[mI _ _ _ _ hi hp,mI _ _ _ _ hi hp,IN cL];by_cases e1:j=i
  ·subst e1;rw[←EI,BY rfl,BY rfl];exact hle
  ·rw[IN e1];by_cases e2:(j-1)/2=p
   ·rw[BY e2];have:=h.1 j j0 hj e1;rw[e2]at this;exact uf hle this
   ·rw[IN e2];by_cases e3:(j-1)/2=i
    ·rw[BY e3];have:=h.2 j j0 hj e3 h0;rw[←EI]at this;exact this
    ·rw[IN e3];exact h.1 j j0 hj e1
 ·rw[iD]at hc;have hpp:(p-1)/2≠p∧(p-1)/2≠i:=by omega
  rw[mI _ _ _ _ hi hp,mI _ _ _ _ hi hp,IN hpp.1,IN hpp.2];have h1:=h.1 p GJ hp (by omega);by_cases e1:c=p
  ·omega
  ·rw[IN e1];by_cases e2:c=i
   ·rw[BY e2];exact h1
   ·rw[IN e2];have:=h.1 c c0 hc e2;rw[hcp]at this;exact uf h1 this
theorem Xf.start(h:Hp a)(x:Nd):Xf (a++[x]) a.length:=by
 have Ym:∀j,j<a.length→dB (a++[x]) j=dB a j:=fun j hj=>by simp[dB,List.getD,ahZ hj]
 refine⟨fun j j0 hj cL=>?_,fun c c0 hc hcp h0=>?_⟩
 ·have:j<a.length:=by simp at hj;omega
  rw[Ym _ (by omega),Ym _ this];exact h j j0 this
 ·simp at hc;omega
def Xg(a:List Nd)(i:Nat):Prop:=(∀j,0<j→j<a.length→(j-1)/2≠i→ue (dB a ((j-1)/2)) (dB a j))∧∀c,0<c→c<a.length→(c-1)/2=i→0<i→ue (dB a ((i-1)/2)) (dB a c)
theorem Xg.done(h:Xg a i)(hs:∀c,0<c→c<a.length→(c-1)/2=i→ue (dB a i) (dB a c)):Hp a:=by
 intro j h0 hj;by_cases e:(j-1)/2=i
 ·rw[e];exact hs j h0 hj e
 ·exact h.1 j h0 hj e
theorem Xg.step{k:Nat}(h:Xg a i)(hk:k<a.length)(Wc:k=2*i+1∨k=2*i+2)(QN:∀c,0<c→c<a.length→(c-1)/2=i→ue (dB a k) (dB a c))(hb:Cd (dB a k) (dB a i)=true):Xg (swp a i k) k:=by
 have hi:i<a.length:=by omega
 have hle:=vZ hb;have hpk:(k-1)/2=i:=by omega
 refine⟨fun j j0 hj cL=>?_,fun c c0 hc hcp hk0=>?_⟩
 ·rw[iD]at hj;rw[mI _ _ _ _ hi hk,mI _ _ _ _ hi hk,IN cL];by_cases e1:j=k
  ·subst e1;rw[hpk,BY rfl,BY rfl];exact hle
  ·rw[IN e1];by_cases e2:(j-1)/2=i
   ·rw[BY e2,IN (by omega)];exact QN j j0 hj e2
   ·rw[IN e2];by_cases e3:j=i
    ·rw[BY e3];have:=h.2 k (by omega) hk hpk (by omega);rw[e3];exact this
    ·rw[IN e3];exact h.1 j j0 hj e2
 ·rw[iD]at hc;rw[mI _ _ _ _ hi hk,mI _ _ _ _ hi hk,hpk,IN (by omega),BY rfl,IN (by omega),IN (by omega)];have:=h.1 c c0 hc (by omega);rw[hcp]at this;exact this
theorem Xg.start(h:Hp a)(cL:0<a.length):Xg ((swp a 0 (a.length-1)).take (a.length-1)) 0:=by
 have hl:((swp a 0 (a.length-1)).take (a.length-1)).length=a.length-1:=by simp
 have Ym:∀j,0<j→j<a.length-1→dB ((swp a 0 (a.length-1)).take (a.length-1)) j=dB a j:=fun j j0 hj=>by
  have:dB ((swp a 0 (a.length-1)).take (a.length-1)) j=dB (swp a 0 (a.length-1)) j:=by simp[dB,List.getD,ahh hj]
  rw[this,mI _ _ _ _ (by omega) (by omega),IN (by omega),IN (by omega)]
 refine⟨fun j j0 hj cL=>?_,fun c _ _ _ h0=>by omega⟩;rw[hl]at hj;rw[Ym j j0 hj,Ym _ (by omega) (by omega)];exact h j j0 (by omega)
theorem Qf(cL:0<a.length)(y:Nd):(y∈(swp a 0 (a.length-1)).take (a.length-1)→y∈a)∧(y∈a→y=dB a 0∨y∈(swp a 0 (a.length-1)).take (a.length-1)):=by
 refine⟨fun h=>(Ce cL (by omega) y).1 (ahJ h),fun h=>?_⟩;have h:=(Ce (i:=0) (k:=a.length-1) cL (by omega) y).2 h;rw[AM]at h;obtain⟨j,hj,e⟩:=h;rw[iD]at hj;by_cases hl:j=a.length-1
 ·left;rw[mI _ _ _ _ cL (by omega),BY hl]at e;exact e.symm
 ·right;rw[ahn];refine⟨j,?_⟩;rw[ahh (by omega),HC (by simpa using hj),e]
theorem RR{S R A:Type}{body:S→(S→Option R)→Option R}(st:A→S)(I:A→Prop)(m:A→Nat)(fin:A→Option R→Prop)(h:∀a,I a→∀rec,(∃a',I a'∧m a'<m a∧body (st a) rec=rec (st a'))∨(∃r,fin a r∧body (st a) rec=r)):∀N a,I a→m a<N→∃a' r,I a'∧fin a' r∧cY body N (st a)=r:=by
 intro N;induction N with
 |zero=>intro a _ h;omega
 |succ N ih=>
  intro a hI hm;simp only[cY];rcases h a hI (cY body N)with⟨a',h1,h2,h3⟩|⟨r,h1,h2⟩
  ·obtain⟨a2,r,i1,i2,i3⟩:=ih a' h1 (by omega);exact⟨a2,r,i1,i2,by rw[h3];exact i3⟩
  ·exact⟨a,r,hI,h1,h2⟩
def up:Nat→List Nd→Nat→List Nd
 |0,a,_=>a
 |f+1,a,i=>if 0<i∧Cd (dB a i) (dB a ((i-1)/2))=true then up f (swp a i ((i-1)/2)) ((i-1)/2)else a
def push(a:List Nd)(x:Nd):List Nd:=up (a.length+1) (a++[x]) a.length
def Gf(a:List Nd)(i:Nat):Nat:=if 2*i+1+1<a.length∧Cd (dB a (2*i+1+1)) (dB a (2*i+1))=true then 2*i+1+1 else 2*i+1
def down:Nat→List Nd→Nat→List Nd
 |0,a,_=>a
 |f+1,a,i=>if a.length≤2*i+1 then a else if Cd (dB a (Gf a i)) (dB a i)=true then down f (swp a i (Gf a i)) (Gf a i)else a
def N7(a:List Nd):List Nd:=(swp a 0 (a.length-1)).take (a.length-1)
def rest(a:List Nd):List Nd:=down (a.length+1) (N7 a) 0
theorem YC:∀(f:Nat){a:List Nd}{i:Nat},i<f→i<a.length→Xf a i→Hp (up f a i)∧(up f a i).length=a.length∧∀x,x∈up f a i↔x∈a
 |0,_,_,h,_,_=>by omega
 |f+1,a,i,hf,hi,h=>by
  unfold up;split
  ·rename_i hc;have hp:(i-1)/2<a.length:=by omega
   obtain⟨h1,h2,h3⟩:=YC f (a:=swp a i ((i-1)/2)) (i:=(i-1)/2) (by omega) (by rw[iD];exact hp) (h.step hc.1 hi hc.2);exact⟨h1,by rw[h2,iD],fun x=>by rw[h3,Ce hi hp]⟩
  ·rename_i hc;refine⟨h.done hi ?_,rfl,fun x=>Iff.rfl⟩;by_cases h0:i=0
   ·exact .inl h0
   ·right;cases hb:Cd (dB a i) (dB a ((i-1)/2))with
    |false=>rfl
    |true=>exact absurd ⟨by omega,hb⟩ hc
variable{a:List Nd}
theorem Xh(h:Hp a)(x:Nd):Hp (push a x)∧(push a x).length=a.length+1∧∀y,y∈push a x↔y∈a∨y=x:=by obtain⟨h1,h2,h3⟩:=YC (a.length+1) (a:=a++[x]) (i:=a.length) (by omega) (by simp) (Xf.start h x);exact⟨h1,by unfold push;rw[h2];simp,fun y=>by unfold push;rw[h3];simp⟩
theorem UZ{i:Nat}(h:¬a.length≤2*i+1):Gf a i<a.length∧(Gf a i=2*i+1∨Gf a i=2*i+2)∧∀c,0<c→c<a.length→(c-1)/2=i→ue (dB a (Gf a i)) (dB a c):=by
 unfold Gf;split
 ·rename_i hc;refine⟨by omega,.inr rfl,fun c c0 hl hp=>?_⟩;have:c=2*i+1∨c=2*i+1+1:=by omega
  rcases this with rfl|rfl
  ·exact vZ hc.2
  ·exact AL _
 ·rename_i hc;refine⟨by omega,.inl rfl,fun c c0 hl hp=>?_⟩;have:c=2*i+1∨c=2*i+1+1:=by omega
  rcases this with rfl|rfl
  ·exact AL _
  ·unfold ue;cases hb:Cd (dB a (2*i+1+1)) (dB a (2*i+1))with
   |false=>rfl
   |true=>exact absurd ⟨hl,hb⟩ hc
theorem Qg:∀(f:Nat){a:List Nd}{i:Nat},a.length≤f+i→Xg a i→Hp (down f a i)∧(down f a i).length=a.length∧∀x,x∈down f a i↔x∈a
 |0,a,i,hf,h=>⟨h.done fun c c0 hc hp=>by omega,rfl,fun x=>Iff.rfl⟩
 |f+1,a,i,hf,h=>by
  unfold down;split
  ·exact⟨h.done fun c c0 hc hp=>by omega,rfl,fun x=>Iff.rfl⟩
  ·rename_i hl;obtain⟨k1,k2,k3⟩:=UZ hl;split
   ·rename_i hb;obtain⟨h1,h2,h3⟩:=Qg f (a:=swp a i (Gf a i)) (i:=Gf a i) (by rw[iD];omega) (h.step k1 k2 k3 hb);exact⟨h1,by rw[h2,iD],fun x=>by rw[h3,Ce (by omega) k1]⟩
   ·rename_i hb;refine⟨h.done fun c c0 hc hp=>uf ?_ (k3 c c0 hc hp),rfl,fun x=>Iff.rfl⟩;unfold ue;exact ahM _▸hb
theorem HD(h:Hp a)(cL:0<a.length):Hp (rest a)∧(rest a).length=a.length-1∧(∀y∈rest a,y∈a)∧(∀y∈a,y=dB a 0∨y∈rest a)∧∀y∈a,(dB a 0).len≤y.len:=by
 have hl:(N7 a).length=a.length-1:=by simp[N7]
 obtain⟨h1,h2,h3⟩:=Qg (a.length+1) (a:=N7 a) (i:=0) (by rw[hl];omega) (Xg.start h cL);refine⟨h1,by unfold rest;rw[h2,hl],fun y hy=>?_,fun y hy=>?_,fun y hy=>?_⟩
 ·exact(Qf cL y).1 ((h3 y).1 hy)
 ·rcases(Qf cL y).2 hy with h|h
  ·exact .inl h
  ·exact .inr ((h3 y).2 h)
 ·obtain⟨j,hj,rfl⟩:=AM.1 hy;exact UX (h.min j hj)
structure Ed where
 f:Nat
 t:Nat
 c:Nat
 deriving DecidableEq,Inhabited
def ew(E:List Ed)(i j c:Nat):Prop:=(⟨i,j,c⟩:Ed)∈E
abbrev Lab:=Option (Nat×Nat)
abbrev nC:=Nat→Lab
def wa(o:nC)(v:Nat)(l:Lab):nC:=fun u=>if u=v then l else o u
def uv(E:List Ed)(o:nC):Nat:=E.countP fun y=>(o y.f).isNone
def EO(n:Nat)(o:nC):Nat:=(List.range n).countP fun v=>(o v).isSome
def HE(E:List Ed)(s v L:Nat):Prop:=(v=s∧L=0)∨kC (ew E) s v L
structure DI(E:List Ed)(n s B:Nat)(o:nC)(pu:Nat)(H:List Nd):Prop where
 hp:Hp H
 node:∀x∈H,x.n<n
 real:∀x∈H,HE E s x.n x.len
 lF:∀v L e,v<n→o v=some (L,e)→HE E s v L∧∀L',HE E s v L'→L≤L'
 front:∀u L e v c,u<n→o u=some (L,e)→(⟨u,v,c⟩:Ed)∈E→o v=none→∃x∈H,x.n=v∧x.len≤L+c
 src:o s=none→∃x∈H,x.n=s∧x.len=0
 U0:∀x∈H,x.len≤B*EO n o∧x.e≤EO n o
 aam:∀v L e,v<n→o v=some (L,e)→L≤B*n∧e≤n
 Uz:pu+uv E o≤1+E.length
 aan:H.length≤pu
theorem Qh(n:Nat)(o:nC):EO n o≤n:=by unfold EO;have:=aiv (p:=fun v=>(o v).isSome) (l:=List.range n);simpa using this
theorem BG{A:Type}[DecidableEq A]{p q:A→Bool}{v:A}:∀{l:List A},l.Nodup→v∈l→(∀u,u≠v→p u=q u)→p v=false→q v=true→l.countP q=l.countP p+1
 |a::l,hn,hv,hpq,h0,h1=>by
  rw[ajA]at hn;rw[aiz,aiz];by_cases e:a=v
  ·subst e;have:l.countP q=l.countP p:=by apply List.countP_congr;intro u hu;rw[hpq u fun e=>by subst e;exact hn.1 hu]
   rw[this,h0,h1];simp
  ·have QL:v∈l:=by rcases afh.1 hv with h|h;exact absurd h.symm e;exact h
   rw[BG hn.2 QL hpq h0 h1,hpq a e];omega
variable{o:nC}
theorem U1{n:Nat}{v:Nat}{l:Nat×Nat}(hv:v<n)(h:o v=none):EO n (wa o v (some l))=EO n o+1:=BG (p:=fun v=>(o v).isSome) (q:=fun u=>(wa o v (some l) u).isSome) (v:=v) List.nodup_range (aib.2 hv) (fun u hu=>by simp[wa,hu]) (by simp[h]) (by simp[wa])
theorem DI.least{E:List Ed}{n s B:Nat}{pu:Nat}{H:List Nd}(h:DI E n s B o pu H)(hE:∀y∈E,y.f<n∧y.t<n){v L:Nat}(hv:o v=none)(hw:HE E s v L):∃x∈H,x.len≤L:=by
 cases hs:o s with
 |none=>obtain⟨x,h1,_,h2⟩:=h.src hs;exact⟨x,h1,by omega⟩
 |some l=>
  obtain⟨Ls,es⟩:=l;rcases hw with⟨rfl,_⟩|hw
  ·rw[hs]at hv;cases hv
  have key:∀{v L:Nat},kC (ew E) s v L→o v=none→∃x∈H,x.len≤L:=by
   intro v L hw;induction hw with
   | @Eg j c hc=>intro hv;have ov:s<n:=(hE _ hc).1;obtain⟨x,h1,_,h2⟩:=h.front s Ls es j c ov hs hc hv;have:=(h.lF s Ls es ov hs).2 0 (.inl ⟨rfl,rfl⟩);exact⟨x,h1,by omega⟩
   | @snoc m j A c hA hc ih=>
    intro hv;cases hm:o m with
    |none=>obtain⟨x,h1,h2⟩:=ih hm;exact⟨x,h1,by omega⟩
    |some l=>obtain⟨Lm,em⟩:=l;have ov:m<n:=(hE _ hc).1;obtain⟨x,h1,_,h2⟩:=h.front m Lm em j c ov hm hc hv;have:=(h.lF m Lm em ov hm).2 A (.inr hA);exact⟨x,h1,by omega⟩
  exact key hw hv
theorem DI.skip{E:List Ed}{n s B:Nat}{pu:Nat}{H:List Nd}(h:DI E n s B o pu H)(cL:0<H.length)(tz:(o (dB H 0).n).isSome=true):DI E n s B o pu (rest H):=by
 obtain⟨r1,r2,r3,r4,r5⟩:=HD h.hp cL;have other:∀x∈H,o x.n=none→x∈rest H:=fun x hx hn=>by
  rcases r4 x hx with e|e
  ·rw[e]at hn;rw[hn]at tz;cases tz
  ·exact e
 refine⟨r1,fun x hx=>h.node x (r3 x hx),fun x hx=>h.real x (r3 x hx),h.lF,fun u L e v c hu ho he hv=>?_,fun hs=>?_,fun x hx=>h.U0 x (r3 x hx),h.aam,h.Uz,by rw[r2];have:=h.aan;omega⟩
 ·obtain⟨x,x1,x2,x3⟩:=h.front u L e v c hu ho he hv;exact⟨x,other x x1 (by rw[x2];exact hv),x2,x3⟩
 ·obtain⟨x,x1,x2,x3⟩:=h.src hs;exact⟨x,other x x1 (by rw[x2];exact hs),x2,x3⟩
def mV(o:nC)(x:Nd):List Ed→Nat→List Nd→Nat×List Nd
 |[],pu,H=>(pu,H)
 |z::es,pu,H=>if(o z.t).isNone=true then mV o x es (pu+1) (push H ⟨z.t,x.len+z.c,x.e+1,pu⟩)else mV o x es pu H
theorem Eh{o:nC}{x:Nd}:∀{es:List Ed}{pu:Nat}{H:List Nd},Hp H→∃k,k≤es.length∧(mV o x es pu H).1=pu+k∧(mV o x es pu H).2.length=H.length+k∧Hp (mV o x es pu H).2∧(∀y∈(mV o x es pu H).2,y∈H∨∃z∈es,o z.t=none∧y.n=z.t∧y.len=x.len+z.c∧y.e=x.e+1)∧(∀y∈H,y∈(mV o x es pu H).2)∧∀z∈es,o z.t=none→∃y∈(mV o x es pu H).2,y.n=z.t∧y.len=x.len+z.c
 |[],pu,H,h=>⟨0,agM _,rfl,rfl,h,fun y hy=>.inl hy,fun y hy=>hy,fun z hz=>by cases hz⟩
 |z::es,pu,H,h=>by
  unfold mV;split
  ·rename_i hz;have hz:o z.t=none:=by simpa using hz
   obtain⟨p1,p2,p3⟩:=Xh h ⟨z.t,x.len+z.c,x.e+1,pu⟩;obtain⟨k,k1,k2,k3,k4,k5,k6,k7⟩:=Eh (o:=o) (x:=x) (es:=es) (pu:=pu+1) p1;refine⟨k+1,by simp;omega,by rw[k2];omega,by rw[k3,p2];omega,k4,fun y hy=>?_,fun y hy=>k6 y ((p3 y).2 (.inl hy)),fun z' SK hn=>?_⟩
   ·rcases k5 y hy with h1|⟨z',h1,h2⟩
    ·rcases(p3 y).1 h1 with h1|rfl
     ·exact .inl h1
     ·exact .inr ⟨z,by simp,hz,rfl,rfl,rfl⟩
    ·exact .inr ⟨z',by simp[h1],h2⟩
   ·rcases afh.1 SK with rfl|SK
    ·exact⟨_,k6 _ ((p3 _).2 (.inr rfl)),rfl,rfl⟩
    ·exact k7 z' SK hn
  ·rename_i hz;obtain⟨k,k1,k2,k3,k4,k5,k6,k7⟩:=Eh (o:=o) (x:=x) (es:=es) (pu:=pu) h;refine⟨k,by simp;omega,k2,k3,k4,fun y hy=>?_,k6,fun z' SK hn=>?_⟩
   ·rcases k5 y hy with h1|⟨z',h1,h2⟩
    ·exact .inl h1
    ·exact .inr ⟨z',by simp[h1],h2⟩
   ·rcases afh.1 SK with rfl|SK
    ·rw[hn]at hz;exact absurd rfl hz
    ·exact k7 z' SK hn
theorem U2(E:List Ed)(o:nC)(v:Nat)(l:Nat×Nat)(h:o v=none):uv E o=uv E (wa o v (some l))+(E.filter fun y=>y.f==v).length:=by
 unfold uv;induction E with
 |nil=>rfl
 |cons y E ih=>
  rw[aiz,aiz,ah2,ih];by_cases e:y.f=v
  ·subst e;simp[wa,h];omega
  ·simp[wa,e];omega
variable{E:List Ed}
theorem DI.settle{n s B:Nat}{o:nC}{pu:Nat}{H:List Nd}(h:DI E n s B o pu H)(hE:∀y∈E,y.f<n∧y.t<n∧y.c≤B)(cL:0<H.length)(Bk:o (dB H 0).n=none):DI E n s B (wa o (dB H 0).n (some ((dB H 0).len,(dB H 0).e))) (mV (wa o (dB H 0).n (some ((dB H 0).len,(dB H 0).e))) (dB H 0) (E.filter fun y=>y.f==(dB H 0).n) pu (rest H)).1 (mV (wa o (dB H 0).n (some ((dB H 0).len,(dB H 0).e))) (dB H 0) (E.filter fun y=>y.f==(dB H 0).n) pu (rest H)).2∧(mV (wa o (dB H 0).n (some ((dB H 0).len,(dB H 0).e))) (dB H 0) (E.filter fun y=>y.f==(dB H 0).n) pu (rest H)).2.length+uv E (wa o (dB H 0).n (some ((dB H 0).len,(dB H 0).e)))<H.length+uv E o:=by
 obtain⟨r1,r2,r3,r4,r5⟩:=HD h.hp cL;obtain⟨x,hx⟩:∃x,x=dB H 0:=⟨_,rfl⟩;rw[←hx]at Bk r4 r5⊢;have hxm:x∈H:=AM.2 ⟨0,cL,hx.symm⟩;have hxn:=h.node x hxm;obtain⟨o1,ho1⟩:∃o1,o1=wa o x.n (some (x.len,x.e)):=⟨_,rfl⟩;rw[←ho1];have oo:∀v,o1 v=if v=x.n then some (x.len,x.e)else o v:=fun v=>by rw[ho1];rfl
 have on:∀v,o1 v=none→v≠x.n∧o v=none:=fun v hv=>by
  rw[oo]at hv;split at hv
  ·cases hv
  ·exact⟨‹_›,hv⟩
 obtain⟨k,k1,k2,k3,k4,k5,k6,k7⟩:=Eh (o:=o1) (x:=x) (es:=E.filter fun y=>y.f==x.n) (pu:=pu) r1;have hs:EO n o1=EO n o+1:=by rw[ho1];exact U1 hxn Bk
 have Q8:uv E o=uv E o1+(E.filter fun y=>y.f==x.n).length:=by rw[ho1];exact U2 E o x.n _ Bk
 have mem:∀z,z∈(E.filter fun y=>y.f==x.n)↔z∈E∧z.f=x.n:=fun z=>by simp[aii]
 have go:∀z,z∈E→z.f=x.n→kC (ew E) s z.t (x.len+z.c):=fun z hz hf=>by
  have he:ew E x.n z.t z.c:=by
   unfold ew;have:(⟨x.n,z.t,z.c⟩:Ed)=z:=by rw[←hf]
   rw[this];exact hz
  rcases h.real x hxm with⟨e1,e2⟩|hw
  ·rw[e2,ahp];rw[e1]at he;exact .Eg he
  ·exact .snoc hw he
 have other:∀y∈H,y.n≠x.n→y∈(mV o1 x (E.filter fun y=>y.f==x.n) pu (rest H)).2:=fun y hy hn=>by
  rcases r4 y hy with e|e
  ·exact absurd (by rw[e]) hn
  ·exact k6 y e
 refine⟨⟨k4,fun y hy=>?_,fun y hy=>?_,fun v L e hv ho=>?_,fun u L e v c hu ho he hv=>?_,fun hs'=>?_,fun y hy=>?_,fun v L e hv ho=>?_,?_,?_⟩,?_⟩
 ·rcases k5 y hy with h1|⟨z,z1,z2,z3,_⟩
  ·exact h.node y (r3 y h1)
  ·rw[z3];exact(hE z ((mem z).1 z1).1).2.1
 ·rcases k5 y hy with h1|⟨z,z1,z2,z3,z4,_⟩
  ·exact h.real y (r3 y h1)
  ·rw[z3,z4];exact .inr (go z ((mem z).1 z1).1 ((mem z).1 z1).2)
 ·rw[oo]at ho;split at ho
  ·rename_i e';simp only[AI,Xp]at ho;obtain⟨rfl,rfl⟩:=ho;subst e';refine⟨h.real x hxm,fun L' hL=>?_⟩;obtain⟨y,y1,y2⟩:=h.least (fun y hy=>⟨(hE y hy).1,(hE y hy).2.1⟩) Bk hL;exact ahl (r5 y y1) y2
  ·exact h.lF v L e hv ho
 ·obtain⟨v1,v2⟩:=on v hv;rw[oo]at ho;split at ho
  ·rename_i e';simp only[AI,Xp]at ho;obtain⟨rfl,rfl⟩:=ho;obtain⟨y,y1,y2,y3⟩:=k7 ⟨u,v,c⟩ ((mem _).2 ⟨he,e'⟩) hv;exact⟨y,y1,y2,by rw[y3];exact agM _⟩
  ·obtain⟨y,y1,y2,y3⟩:=h.front u L e v c hu ho he v2;exact⟨y,other y y1 (by rw[y2];exact v1),y2,y3⟩
 ·obtain⟨v1,v2⟩:=on s hs';obtain⟨y,y1,y2,y3⟩:=h.src v2;exact⟨y,other y y1 (by rw[y2];exact v1),y2,y3⟩
 ·rw[hs,Nat.mul_succ];rcases k5 y hy with h1|⟨z,z1,z2,z3,z4,z5⟩
  ·have:=h.U0 y (r3 y h1);omega
  ·have:=h.U0 x hxm;have:=(hE z ((mem z).1 z1).1).2.2;omega
 ·rw[oo]at ho;split at ho
  ·simp only[AI,Xp]at ho;obtain⟨rfl,rfl⟩:=ho;have h1:=h.U0 x hxm;have h2:=Qh n o;have h3:B*EO n o≤B*n:=ah7 _ h2;omega
  ·exact h.aam v L e hv ho
 ·have:=h.Uz;omega
 ·have:=h.aan;omega
 ·rw[k3,r2];omega
theorem DI.start{n s B:Nat}(hs:s<n):DI E n s B (fun _=>none) 1 [⟨s,0,0,0⟩]:=by
 refine⟨fun j j0 hj=>by simp at hj;omega,fun x hx=>?_,fun x hx=>?_,fun v L e _ h=>(by cases h),fun u L e v c _ h=>(by cases h),fun _=>⟨⟨s,0,0,0⟩,by simp,rfl,rfl⟩,fun x hx=>?_,fun v L e _ h=>(by cases h),?_,by simp⟩
 ·simp at hx;subst hx;exact hs
 ·simp at hx;subst hx;exact .inl ⟨rfl,rfl⟩
 ·simp at hx;subst hx;simp
 ·have:uv E (fun _=>none)=E.length:=by simp[uv]
  omega
theorem DI.done{n s B:Nat}{o:nC}{pu:Nat}(h:DI E n s B o pu [])(hE:∀y∈E,y.f<n∧y.t<n∧y.c≤B){v:Nat}(hv:v<n):match o v with
 |some (L,_)=>L≤B*n∧HE E s v L∧∀L',HE E s v L'→L≤L'
 |none=>∀L',¬HE E s v L':=by
 cases ho:o v with
 |some l=>obtain⟨L,e⟩:=l;exact⟨(h.aam v L e hv ho).1,h.lF v L e hv ho⟩
 |none=>
  intro L' hL
  obtain⟨x,hx,_⟩:=h.least (fun y hy=>⟨(hE y hy).1,(hE y hy).2.1⟩) ho hL
  cases hx
set_option maxRecDepth 100000
set_option linter.unusedVariables false
set_option linter.unusedSimpArgs false
def Nd.pv(x:Nd):PV:=.agg [.int .i64 x.n,.int .i64 x.len,.int .i64 x.e,.int .i64 x.num]
abbrev mQ(a:List Nd):List PV:=a.map Nd.pv
theorem nd0(x:Nd):cell x.pv 0=.int .i64 x.n:=rfl
theorem nd1(x:Nd):cell x.pv 1=.int .i64 x.len:=rfl
theorem nd2(x:Nd):cell x.pv 2=.int .i64 x.e:=rfl
theorem nd3(x:Nd):cell x.pv 3=.int .i64 x.num:=rfl
theorem ndE(x:Nd):PV.agg [cell x.pv 0,cell x.pv 1,cell x.pv 2,cell x.pv 3]=x.pv:=rfl
theorem eH{a:List Nd}{i:Nat}(h:i<a.length):(mQ a)[i]?=some (dB a i).pv:=by rw[IS,HC h];rfl
theorem ab0(a b c:PV):cell (.agg [a,b,c]) 0=a:=rfl
theorem aao(a b c:PV):cell (.agg [a,b,c]) 1=b:=rfl
theorem ab1(a b c:PV):cell (.agg [a,b,c]) 2=c:=rfl
theorem ag3(a b c:PV):asAgg 3 (.agg [a,b,c])=some ():=rfl
theorem Xi(a b:Nd):fX [.agg [cell a.pv 0,cell a.pv 1,cell a.pv 2],.agg [cell b.pv 0,cell b.pv 1,cell b.pv 2]]=some (.bool (decide (a.len<b.len∨(a.len=b.len∧a.e<b.e)))):=by
 simp only[fX,rX,ag3,ab0,aao,ab1,nd0,nd1,nd2,T1,U,asInt];by_cases h1:a.len<b.len
 ·simp[h1]
 ·by_cases h2:a.len=b.len
  ·simp[h2]
  ·have:((a.len:Int)==(b.len:Int))=false:=by rw[aho];omega
   simp[h1,h2,this]
theorem s9(a:List Nd)(pu:Nat)(i k:Nat)(hi:i<a.length)(hk:k<a.length):aN [.rp [.fn 156 [],.rs 4 (mQ a),.int .i64 pu],.int .i64 i,.int .i64 k]=some (.bool (Cd (dB a i) (dB a k))):=by
 have e0:aQ 4 (PV.rs 4 (mQ a))=some (mQ a):=by simp[aQ]
 simp only[aN,dV,aao,ab1,e0,U,asInt,T1,aV,eH hi,eH hk,Xi,asBool,nd3];generalize dB a i=x;generalize dB a k=y;unfold Cd;by_cases h1:x.len<y.len∨(x.len=y.len∧x.e<y.e)
 ·have:(x.len<y.len∨(x.len=y.len∧(x.e<y.e∨(x.e=y.e∧x.num<y.num)))):=by omega
  simp[h1,this]
 ·by_cases h2:y.len<x.len∨(y.len=x.len∧y.e<x.e)
  ·have:¬(x.len<y.len∨(x.len=y.len∧(x.e<y.e∨(x.e=y.e∧x.num<y.num)))):=by omega
   simp[h1,h2,this]
  ·have:(x.len<y.len∨(x.len=y.len∧(x.e<y.e∨(x.e=y.e∧x.num<y.num))))↔x.num<y.num:=by omega
   simp[h1,h2,this]
theorem half(i:Nat)(h:0<i)(hi:i<4611686018427387904):IntKind.i64.wrap ((IntKind.i64.wrap ((i:Int)-1)).tdiv 2)=(((i-1)/2:Nat):Int):=by
 have e1:IntKind.i64.wrap ((i:Int)-1)=((i-1:Nat):Int):=by rw[br (by omega) (by omega)];omega
 have e2:((i-1:Nat):Int).tdiv 2=(((i-1)/2:Nat):Int):=rfl;rw[e1,e2,br (by omega) (by omega)]
theorem Cf{i:Nat}{es:List PV}(h:i<es.length):ab (i:Int) es.length:=⟨by omega,by omega⟩
theorem HF(a:List Nd)(i k:Nat):((mQ a).set i (dB a k).pv).set k (dB a i).pv=mQ (swp a i k):=by simp[swp,ajb]
theorem Qi(qQ:TY2→Option PV)(t1:PV)(es:List PV)(ln ix:Int)(pu:Nat)(out:List PV)(x0 x1 x2:PV):∀(f N:Nat)(a:List Nd)(i:Nat),i<f→f≤N→i<a.length→a.length<4611686018427387904→cY (lG qQ) N ((i:Int),t1,es,ln,ix,(pu:Int),out,x0,x1,x2,mQ a,())=qQ (t1,es,ln,IntKind.i64.wrap (ix+1),out,(pu:Int),x0,x1,x2,mQ (up f a i),())
 |0,_,_,_,h,_,_,_=>by omega
 |f+1,0,_,_,_,h,_,_=>by omega
 |f+1,N+1,a,i,hf,hN,hi,ha=>by
  simp only[cY];unfold lG up;by_cases h0:0<i
  ·have hp:(i-1)/2<a.length:=by omega
   have hg:decide ((i:Int)>0)=true:=by simp;omega
   simp only[hg,cond_true,half i h0 (by omega),s9 a pu i ((i-1)/2) hi hp,U,asBool];by_cases hb:Cd (dB a i) (dB a ((i-1)/2))=true
   ·have hl1:i<(mQ a).length:=by simpa using hi
    have hl2:(i-1)/2<(mQ a).length:=by simpa using hp
    have hl3:(i-1)/2<((mQ a).set i (dB a ((i-1)/2)).pv).length:=by simpa using hp
    have Gg:((mQ a).set i (dB a ((i-1)/2)).pv)[(i-1)/2]?=some (dB a ((i-1)/2)).pv:=by rw[ahb];rw[IN (by omega),eH hp]
    simp only[hb,T1,BY (Cf hl1),BY (Cf hl2),BY (Cf hl3),afm,eH hi,eH hp,U,ndE,Gg,HF,h0,and_self];exact Qi qQ t1 es ln ix pu out x0 x1 x2 f N (swp a i ((i-1)/2)) ((i-1)/2) (by omega) (by omega) (by rw[iD];exact hp) (by rw[iD];exact ha)
   ·simp only[hb,AT,Xq,and_false]
  ·have hg:decide ((i:Int)>0)=false:=by simp;omega
   simp only[hg,cond_false,U,AT,Xq,h0,false_and]
def rB(v:Nat):Lab→PV
 |none=>.agg [.int .i64 v,.int .i64 (-1),.int .i64 (-1)]
 |some (L,e)=>.agg [.int .i64 v,.int .i64 (L:Int),.int .i64 (e:Int)]
def dE(n:Nat)(o:nC):List PV:=(List.range n).map fun v=>rB v (o v)
def Ed.pv(y:Ed):PV:=.agg [.int .i64 y.f,.int .i64 y.t,.int .i64 y.c]
theorem pF(n:Nat)(o:nC):(dE n o).length=n:=by simp[dE]
theorem pG{n v:Nat}(o:nC)(h:v<n):(dE n o)[v]?=some (rB v (o v)):=by simp[dE,h]
theorem RS{n v:Nat}(o:nC)(l:Nat×Nat)(h:v<n):(dE n o).set v (rB v (some l))=dE n (wa o v (some l)):=by
 apply ag5;intro i;rw[ahb];by_cases e:v=i
 ·subst e;rw[BY rfl,BY (by rw[pF];exact h),pG _ h];simp[wa]
 ·rw[IN e];by_cases hi:i<n
  ·rw[pG _ hi,pG _ hi];simp[wa,Ne.symm e]
  ·rw[afi (by rw[pF];omega),afi (by rw[pF];omega)]
theorem ab2(v:Nat)(l:Lab):∃z:Int,asInt .i64 (cell (rB v l) 2)=some z∧(decide (z<0)=l.isNone)∧decide (z≥0)=l.isSome:=by
 cases l with
 |none=>exact⟨-1,rfl,rfl,rfl⟩
 |some p=>obtain⟨L,e⟩:=p;exact⟨e,rfl,by simp,by simp⟩
theorem ed1(y:Ed):cell y.pv 1=.int .i64 y.t:=rfl
theorem ed2(y:Ed):cell y.pv 2=.int .i64 y.c:=rfl
theorem Es(n:Int):asInt .i64 (.int .i64 n)=some n:=by simp[asInt]
theorem Gh(cB:PV×List PV×Int×List PV×Unit→Option PV)(t1:PV)(n:Nat)(o:nC)(x:Nd)(es:List Ed)(ht:∀z∈es,z.t<n)(hn:n<4294967296)(hx:x.len<4611686018427387904)(hxe:x.e<4611686018427387904)(hc:∀z∈es,z.c<4611686018427387904)(Ft:es.length<4611686018427387904):∀(m N k pu:Nat)(H:List Nd),m+k=es.length→m<N→pu+m<4294967296→H.length+m<4294967296→cY (cT bx cB) N (t1,es.map Ed.pv,((es.length:Nat):Int),(k:Int),dE n o,(pu:Int),.int .i64 x.n,.int .i64 x.len,.int .i64 x.e,mQ H,())=cB (t1,dE n o,((mV o x (es.drop k) pu H).1:Int),mQ (mV o x (es.drop k) pu H).2,())
 |_,0,_,_,_,_,h,_,_=>by omega
 |0,N+1,k,pu,H,hk,hN,hpu,hH=>by
  simp only[cY];unfold cT;dsimp only;have hg:decide ((k:Int)<((es.length:Nat):Int))=false:=by simp;omega
  rw[hg,ajy (by omega)];rfl
 |m+1,N+1,k,pu,H,hk,hN,hpu,hH=>by
  have ih:=Gh cB t1 n o x es ht hn hx hxe hc Ft m N (k+1);simp only[cY];generalize cY (cT bx cB) N=rec at ih⊢;unfold cT;dsimp only;have Yc:k<es.length:=by omega
  have hg:decide ((k:Int)<((es.length:Nat):Int))=true:=by simp;omega
  obtain⟨z,hz⟩:∃z,es[k]?=some z:=⟨_,AS Yc⟩;have hzm:z∈es:=aaQ hz;have hzt:=ht z hzm;have EF:(es.map Ed.pv)[k]?=some z.pv:=by rw[IS,hz];rfl
  have ab3:es.drop k=z::es.drop (k+1):=by rw[aie Yc];have:=AS Yc;rw[hz]at this;rw[ai3 this]
  obtain⟨w,w1,w2,w3⟩:=ab2 z.t (o z.t);have ov:ab (z.t:Int) (dE n o).length:=Cf (by rw[pF];exact hzt);rw[ab3,mV];simp only[hg,T1,aV,EF,U,ed1,ed2,Es,BY ov,afm,pG o hzt,w1,w2];by_cases Bk:(o z.t).isNone=true
  ·have e1:IntKind.i64.wrap ((x.len:Int)+(z.c:Int))=((x.len+z.c:Nat):Int):=by have:=hc z hzm;rw[br (by omega) (by omega)];omega
   have e2:mQ H++[PV.agg [.int .i64 z.t,.int .i64 ((x.len+z.c:Nat):Int),.int .i64 ((x.e+1:Nat):Int),.int .i64 pu]]=mQ (H++[⟨z.t,x.len+z.c,x.e+1,pu⟩]):=by simp[mQ,Nd.pv]
   have e3:(mQ (H++[⟨z.t,x.len+z.c,x.e+1,pu⟩])).length=H.length+1:=by simp
   have e4:IntKind.i64.wrap (((H.length+1:Nat):Int)-1)=(H.length:Int):=by rw[br (by omega) (by omega)];omega
   have gu:(H.length+1)*32≤aj∧0<32:=by unfold aj;omega
   simp only[Bk,T1,e1,ah (show x.e<9223372036854775807 by omega),e2,e3,e4,BY gu,ah (show pu<9223372036854775807 by omega),lX];refine(Qi rec t1 (es.map Ed.pv) ((es.length:Nat):Int) (k:Int) (pu+1) (dE n o) _ _ _ (H.length+1) rounds (H++[⟨z.t,x.len+z.c,x.e+1,pu⟩]) H.length (by omega) (by unfold rounds;omega) (by simp) (by simp;omega)).trans ?_;rw[ah (by omega)];rw[show up (H.length+1) (H++[⟨z.t,x.len+z.c,x.e+1,pu⟩]) H.length=push H ⟨z.t,x.len+z.c,x.e+1,pu⟩from rfl];refine ih (pu+1) _ (by omega) (by omega) (by omega) ?_;have:(push H ⟨z.t,x.len+z.c,x.e+1,pu⟩).length=H.length+1:=by
    unfold push;have key:∀(f:Nat)(a:List Nd)(i:Nat),(up f a i).length=a.length:=by
     intro f;induction f with
     |zero=>intro a i;rfl
     |succ f ih=>
      intro a i;unfold up;split
      ·rw[ih,iD]
      ·rfl
    rw[key];simp
   omega
  ·simp only[Bk,AT,Xq,ah (show k<9223372036854775807 by omega)];exact ih pu H (by omega) (by omega) (by omega) (by omega)
structure Gr(E:List Ed)(n:Nat)(ks vs:List PV):Prop where
 small:n<4294967296
 len:E.length<1073741824
 node:∀y∈E,y.f<n∧y.t<n∧y.c≤1073741824
 look:∀v:Nat,v<n→aQ 3 (dD (.int .i64 v) (.rs 0 []) (ks.zip vs))=some ((E.filter fun y=>y.f==v).map Ed.pv)
section
variable {E:List Ed} {n:Nat} {ks vs:List PV}
def labelled(o:nC)(x:Nd):nC:=wa o x.n (some (x.len,x.e))
def KR(cB:PV×List PV×Int×List PV×Unit→Option PV)(E:List Ed)(n:Nat)(ks vs:List PV)(o:nC)(x:Nd)(pu:Nat)(H:List Nd):Option PV:=
 if(o x.n).isSome=true then cB (.rm 3 ks vs,dE n o,(pu:Int),mQ H,())
 else cB (.rm 3 ks vs,dE n (labelled o x),((mV (labelled o x) x (E.filter fun y=>y.f==x.n) pu H).1:Int),mQ (mV (labelled o x) x (E.filter fun y=>y.f==x.n) pu H).2,())
structure Sm(n:Nat)(E:List Ed)(x:Nd)(pu:Nat)(H:List Nd):Prop where
 node:x.n<n
 len:x.len<4611686018427387904
 e:x.e<4611686018427387904
 pu:pu≤1073741824
 H:H.length≤1073741824
theorem wR(hG:Gr E n ks vs)(cB:PV×List PV×Int×List PV×Unit→Option PV)(o:nC)(x:Nd)(pu:Nat)(H:List Nd)(hS:Sm n E x pu H)(A:Int→PV→Int→Option PV):((asInt .i64 (.int .i64 x.n)).bind fun n23=>if ab n23 (dE n o).length then(dE n o)[n23.toNat]?.bind fun e24=>(asInt .i64 (cell e24 2)).bind fun n25=>if decide (n25≥0)=true then cB (.rm 3 ks vs,dE n o,(pu:Int),mQ H,())else(asInt .i64 (.int .i64 x.n)).bind fun n26=>if ab n26 (dE n o).length then(dE n o)[n26.toNat]?.bind fun e27=>(asInt .i64 (.int .i64 x.n)).bind fun n28=>dJ 3 (.rm 3 ks vs) (A n26 e27 n28) fun aap HG=>(aQ 3 (dD (.int .i64 n28) (.rs 0 []) (aap.zip HG))).bind fun U3=>bx.run (cT bx cB) (.rm 3 ks vs,U3,(U3.length:Int),0,(dE n o).set n26.toNat (.agg [.int .i64 x.n,.int .i64 x.len,.int .i64 x.e]),(pu:Int),.int .i64 x.n,.int .i64 x.len,.int .i64 x.e,mQ H,())else none else none)=KR cB E n ks vs o x pu H:=by
 have ov:ab (x.n:Int) (dE n o).length:=Cf (by rw[pF];exact hS.node)
 obtain⟨w,w1,w2,w3⟩:=ab2 x.n (o x.n)
 simp only[Es,U,BY ov,afm,pG o hS.node,w1,w3,dJ,T1,hG.look x.n hS.node,lX]
 unfold KR
 by_cases hs:(o x.n).isSome=true
 ·simp only[hs,T1]
 ·simp only[hs,AT,Xq];have e1:(dE n o).set x.n (.agg [.int .i64 x.n,.int .i64 x.len,.int .i64 x.e])=dE n (labelled o x):=RS o (x.len,x.e) hS.node;rw[e1];have hl:(E.filter fun y=>y.f==x.n).length≤E.length:=ajD ..;have bR:∀z∈E.filter (fun y=>y.f==x.n),z∈E:=fun z hz=>(aii.1 hz).1;have h1:=hG.len;have h2:=hS.pu;have h3:=hS.H;have:=Gh cB (.rm 3 ks vs) n (labelled o x) x (E.filter fun y=>y.f==x.n) (fun z hz=>(hG.node z (bR z hz)).2.1) hG.small hS.len hS.e (fun z hz=>by have:=(hG.node z (bR z hz)).2.2;omega) (by omega) (E.filter fun y=>y.f==x.n).length rounds 0 pu H (by omega) (by unfold rounds;omega) (by omega) (by omega);rw[ajN]at this;simpa using this
theorem U4{a:List Nd}{i:Nat}(h:2*i+1+1<a.length∧Cd (dB a (2*i+1+1)) (dB a (2*i+1))=true):Gf a i=2*i+1+1:=BY h
theorem RT{a:List Nd}{i:Nat}(h:¬(2*i+1+1<a.length∧Cd (dB a (2*i+1+1)) (dB a (2*i+1))=true)):Gf a i=2*i+1:=IN h
theorem Gi(hG:Gr E n ks vs)(cB:PV×List PV×Int×List PV×Unit→Option PV)(o:nC)(x:Nd)(pu:Nat)(z1 z2 z3:Int):∀(f N:Nat)(a:List Nd)(i:Nat),a.length≤f+i→f<N→i<4294967296→Sm n E x pu a→cY (dP bx cB) N ((i:Int),.rm 3 ks vs,(pu:Int),z1,z2,z3,.int .i64 x.n,.int .i64 x.len,.int .i64 x.e,dE n o,mQ a,())=KR cB E n ks vs o x pu (down f a i)
 |_,0,_,_,_,h,_,_=>by omega
 |0,N+1,a,i,hf,hN,hi,hS=>by
  simp only[cY];generalize cY (dP bx cB) N=rec;unfold dP down;dsimp only;have e1:IntKind.i64.wrap (IntKind.i64.wrap (2*(i:Int))+1)=((2*i+1:Nat):Int):=by rw[br (x:=2*(i:Int)) (by omega) (by omega),br (by omega) (by omega)];omega
  have hg:decide (((2*i+1:Nat):Int)≥((mQ a).length:Int))=true:=by simp;omega
  rw[e1,BY hg];exact wR hG cB o x pu a hS _
 |f+1,N+1,a,i,hf,hN,hi,hS=>by
  have ih:=Gi hG cB o x pu z1 z2 z3 f N;simp only[cY];generalize cY (dP bx cB) N=rec at ih⊢;have e1:IntKind.i64.wrap (IntKind.i64.wrap (2*(i:Int))+1)=((2*i+1:Nat):Int):=by rw[br (x:=2*(i:Int)) (by omega) (by omega),br (by omega) (by omega)];omega
  have e2:IntKind.i64.wrap (((2*i+1:Nat):Int)+1)=((2*i+1+1:Nat):Int):=ah (by omega);unfold dP down;dsimp only;rw[e1,e2];by_cases hl:a.length≤2*i+1
  ·have hg:decide (((2*i+1:Nat):Int)≥((mQ a).length:Int))=true:=by simp;omega
   rw[BY hg,BY hl];exact wR hG cB o x pu a hS _
  ·have hg:¬decide (((2*i+1:Nat):Int)≥((mQ a).length:Int))=true:=by simp;omega
   rw[IN hg,IN hl];have hlen:=hS.H;have mT:i<a.length:=by omega
   have ZR:i<(mQ a).length:=by simpa using mT
   obtain⟨k1,k2,_⟩:=UZ hl;have QX:Gf a i<(mQ a).length:=by simpa using k1
   have hk3:Gf a i<((mQ a).set i (dB a (Gf a i)).pv).length:=by simpa using k1
   have Gg:((mQ a).set i (dB a (Gf a i)).pv)[Gf a i]?=some (dB a (Gf a i)).pv:=by rw[ahb,IN (by omega),eH k1]
   have fin:=ih (swp a i (Gf a i)) (Gf a i) (by rw[iD];omega) (by omega) (by omega) ⟨hS.node,hS.len,hS.e,hS.pu,by rw[iD];exact hS.H⟩;by_cases hc:2*i+1+1<a.length∧Cd (dB a (2*i+1+1)) (dB a (2*i+1))=true
   ·have hk:=U4 hc;have hd:decide (((2*i+1+1:Nat):Int)<((mQ a).length:Int))=true:=by simp;omega
    rw[hd];rw[hk]at QX hk3 Gg fin k1⊢;simp only[cond_true,s9 a pu (2*i+1+1) (2*i+1) (by omega) (by omega),hc.2,U,asBool,T1,s9 a pu (2*i+1+1) i k1 mT];by_cases hb:Cd (dB a (2*i+1+1)) (dB a i)=true
    ·rw[BY hb]at*;simp only[hb,afj,AT,Xq,BY (Cf ZR),BY (Cf QX),BY (Cf hk3),afm,eH mT,eH k1,U,ndE,Gg,HF];exact fin
    ·rw[IN hb];have gX:(!Cd (dB a (2*i+1+1)) (dB a i))=true:=by simpa using hb
     rw[BY gX];exact wR hG cB o x pu a hS _
   ·have hk:=RT hc;have hd:(bif decide (((2*i+1+1:Nat):Int)<((mQ a).length:Int))then(aN [.rp [.fn 156 [],.rs 4 (mQ a),.int .i64 (pu:Int)],.int .i64 ((2*i+1+1:Nat):Int),.int .i64 ((2*i+1:Nat):Int)]).bind fun r53=>(asBool r53).bind fun b54=>some b54 else some false)=some false:=by
     by_cases h2:2*i+1+1<a.length
     ·have hd:decide (((2*i+1+1:Nat):Int)<((mQ a).length:Int))=true:=by simp;omega
      have hb:Cd (dB a (2*i+1+1)) (dB a (2*i+1))=false:=by
       cases hb:Cd (dB a (2*i+1+1)) (dB a (2*i+1))with
       |false=>rfl
       |true=>exact absurd ⟨h2,hb⟩ hc
      rw[hd,cond_true,s9 a pu (2*i+1+1) (2*i+1) h2 (by omega),U,hb];rfl
     ·have hd:decide (((2*i+1+1:Nat):Int)<((mQ a).length:Int))=false:=by simp;omega
      rw[hd];rfl
    rw[hd];rw[hk]at QX hk3 Gg fin k1⊢;simp only[U,asBool,AT,Xq,s9 a pu (2*i+1) i k1 mT];by_cases hb:Cd (dB a (2*i+1)) (dB a i)=true
    ·rw[BY hb]at*;simp only[hb,afj,AT,Xq,BY (Cf ZR),BY (Cf QX),BY (Cf hk3),afm,eH mT,eH k1,U,ndE,Gg,HF];exact fin
    ·rw[IN hb];have gX:(!Cd (dB a (2*i+1)) (dB a i))=true:=by simpa using hb
     rw[BY gX];exact wR hG cB o x pu a hS _
end
section
variable {E:List Ed} {n:Nat} {ks vs:List PV}
theorem RU(hG:Gr E n ks vs)(cB:PV×List PV×Int×List PV×Unit→Option PV)(o:nC)(pu:Nat)(H:List Nd)(hS:∀x∈H,Sm n E x pu H):dQ bx (.rm 3 ks vs,dE n o,(pu:Int),mQ H,()) cB=if H.length=0 then some (.rs 3 (dE n o))else KR cB E n ks vs o (dB H 0) pu (rest H):=by
 unfold dQ;dsimp only;by_cases h0:H.length=0
 ·have hg:(((mQ H).length:Int)==0)=true:=by rw[T0,h0];rfl
  rw[BY hg,BY h0]
 ·have hg:¬(((mQ H).length:Int)==0)=true:=by simp;intro h;exact h0 (by rw[h];rfl)
  rw[IN hg,IN h0];have hx:dB H 0∈H:=AM.2 ⟨0,by omega,rfl⟩;have Zz:=hS _ hx;have hH:=Zz.H;have hl:((mQ H).length:Int)=(H.length:Int):=by simp
  have e1:IntKind.i64.wrap ((H.length:Int)-1)=((H.length-1:Nat):Int):=by rw[br (by omega) (by omega)];omega
  have i0:ab (0:Int) (mQ H).length:=Cf (i:=0) (by simp;omega);have hl1:H.length-1<(mQ H).length:=by simp;omega
  have hl3:H.length-1<((mQ H).set 0 (dB H (H.length-1)).pv).length:=by simp;omega
  have g0:(mQ H)[0]?=some (dB H 0).pv:=eH (by omega);have gl:(mQ H)[H.length-1]?=some (dB H (H.length-1)).pv:=eH (by omega);have g3:∃q,((mQ H).set 0 (dB H (H.length-1)).pv)[H.length-1]?=some q:=⟨_,AS hl3⟩;obtain⟨q,g3⟩:=g3;have z0:Int.toNat 0=0:=rfl;have kr:(0:Int)≤0∧0≤((H.length-1:Nat):Int)∧((H.length-1:Nat):Int)≤(((((mQ H).set 0 (dB H (H.length-1)).pv).set (H.length-1) (dB H 0).pv).length:Nat):Int):=by refine⟨by omega,by omega,?_⟩;simp only[aiF,T0];omega
  simp only[hl,e1,BY i0,z0,g0,U,BY (Cf hl1),afm,gl,ndE,BY (Cf hl3),g3,ajZ,BY kr,aiC];simp only[nd0,nd1,nd2,HF,←ai0,lX];rw[BY (by refine⟨by omega,by omega,?_⟩;simp only[T0,iD];omega)];have:=Gi hG cB o (dB H 0) pu 0 0 0 (H.length+1) rounds (N7 H) 0 (by simp[N7];omega) (by unfold rounds;omega) (by omega) ⟨Zz.node,Zz.len,Zz.e,Zz.pu,by simp[N7];omega⟩;exact this
theorem DI.small{s B:Nat}{o:nC}{pu:Nat}{H:List Nd}(h:DI E n s B o pu H)(hG:Gr E n ks vs)(hB:B≤1073741824)(hn:n≤64):∀x∈H,Sm n E x pu H:=fun x hx=>by have h1:=h.U0 x hx;have h2:=Qh n o;have h3:B*EO n o≤1073741824*64:=aiJ hB (by omega);have h4:=h.Uz;have h5:=h.aan;have h6:=hG.len;exact⟨h.node x hx,by omega,by omega,by omega,by omega⟩
theorem RV(hG:Gr E n ks vs){s B:Nat}(hs:s<n)(hB:B≤1073741824)(hEB:∀y∈E,y.c≤B)(hn:n≤64):∃o pu,DI E n s B o pu []∧bx.run (dQ bx) (.rm 3 ks vs,dE n (fun _=>none),1,[PV.agg [.int .i64 s,.int .i64 0,.int .i64 0,.int .i64 0]],())=some (.rs 3 (dE n o)):=by
 have hE:∀y∈E,y.f<n∧y.t<n∧y.c≤B:=fun y hy=>⟨(hG.node y hy).1,(hG.node y hy).2.1,hEB y hy⟩;have hlen:=hG.len;obtain⟨a,r,hI,⟨h0,hr⟩,ow⟩:=RR (body:=dQ bx) (A:=nC×Nat×List Nd) (fun a=>(PV.rm 3 ks vs,dE n a.1,(a.2.1:Int),mQ a.2.2,())) (fun a=>DI E n s B a.1 a.2.1 a.2.2) (fun a=>a.2.2.length+uv E a.1) (fun a r=>a.2.2=[]∧r=some (.rs 3 (dE n a.1))) (fun a hI cB=>by
  obtain⟨o,pu,H⟩:=a;have hI:DI E n s B o pu H:=hI;dsimp only;rw[RU hG cB o pu H (hI.small hG hB hn)];by_cases hH:H.length=0
  ·right;rw[BY hH];exact⟨_,⟨afl hH,rfl⟩,rfl⟩
  ·left;rw[IN hH];have cL:0<H.length:=by omega
   unfold KR;by_cases tz:(o (dB H 0).n).isSome=true
   ·rw[BY tz];refine⟨(o,pu,rest H),hI.skip cL tz,?_,rfl⟩;have:=(HD hI.hp cL).2.1;dsimp only;omega
   ·rw[IN tz];have Bk:o (dB H 0).n=none:=by simpa using tz
    obtain⟨s1,s2⟩:=hI.settle hE cL Bk;exact⟨(_,_,_),s1,s2,rfl⟩) rounds ((fun _=>none),1,[⟨s,0,0,0⟩]) (DI.start hs) (by
  have:uv E (fun _=>none)≤E.length:=aiv;simp only[agU,ahg];unfold rounds;omega)
 obtain⟨o,pu,H⟩:=a;dsimp only at h0 hr hI;subst h0;refine⟨o,pu,hI,?_⟩;rw[lX,←hr,←ow];rfl
theorem RW(hG:Gr E n ks vs){s B:Nat}(hs:s<n)(hB:B≤1073741824)(hEB:∀y∈E,y.c≤B)(hn:n≤64):∃o pu,DI E n s B o pu []∧eO [.int .i64 n,.rm 3 ks vs,.int .i64 s]=some (.rs 3 (dE n o)):=by
 obtain⟨o,pu,hI,h⟩:=RV hG hs hB hEB hn;refine⟨o,pu,hI,?_⟩;have gu:(0:Int)≤(n:Int)∧(n:Int)≤(n:Int)∧n*24≤aj∧0<24∧0<3:=by refine⟨by omega,by omega,?_,by omega,by omega⟩;unfold aj;omega
 simp only[eO,oH,Es,U,dJ,T1,BY gu,afm,ah0];have fill:∀k,k≤n→((List.range n).map fun v=>if v<k then rB v none else PV.agg [.int .i64 0,.int .i64 0,.int .i64 0]).length=n:=fun k _=>by simp
 refine bT (fun k=>(PV.rm 3 ks vs,(s:Int),(n:Int),(k:Int),(List.range n).map (fun v=>if v<k then rB v none else PV.agg [.int .i64 0,.int .i64 0,.int .i64 0]),())) n (fun k hk rec=>?_) (fun rec=>?_) (by unfold rounds;omega) ?_
 ·unfold gB;dsimp only;have hg:decide ((k:Int)<(n:Int))=true:=by simp;omega
  have ov:ab (k:Int) ((List.range n).map fun v=>if v<k then rB v none else PV.agg [.int .i64 0,.int .i64 0,.int .i64 0]).length:=Cf (by rw[fill k (by omega)];exact hk);have eH:((List.range n).map fun v=>if v<k then rB v none else PV.agg [.int .i64 0,.int .i64 0,.int .i64 0])[k]?=some (PV.agg [.int .i64 0,.int .i64 0,.int .i64 0]):=by simp[hk]
  have tz:((List.range n).map fun v=>if v<k then rB v none else PV.agg [.int .i64 0,.int .i64 0,.int .i64 0]).set k (.agg [.int .i64 k,.int .i64 (-1),.int .i64 (-1)])=(List.range n).map fun v=>if v<k+1 then rB v none else PV.agg [.int .i64 0,.int .i64 0,.int .i64 0]:=by
   apply ag5;intro i;rw[ahb];by_cases e:k=i
   ·subst e;simp[hk,rB]
   ·rw[IN e];by_cases hi:i<n
    ·simp only[IS,ahS hi,adN];by_cases h1:i<k
     ·rw[BY h1,BY (by omega)]
     ·rw[IN h1,IN (by omega)]
    ·rw[afi (by simp;omega),afi (by simp;omega)]
  rw[BY hg,BY ov,afm,eH,U,tz,ah (by omega)]
 ·unfold gB;dsimp only;have hg:¬decide ((n:Int)<(n:Int))=true:=by simp
  have e0:IntKind.i64.wrap ((1:Nat)-1:Int)=0:=by decide
  have e1:IntKind.i64.wrap (0+1)=1:=by decide
  have LR:((List.range n).map fun v=>if v<n then rB v none else PV.agg [.int .i64 0,.int .i64 0,.int .i64 0])=dE n (fun _=>none):=by unfold dE;apply ahc;intro v hv;rw[BY (aib.1 hv)]
  rw[IN hg,LR,e1];refine Eq.trans ?_ h;have first:∀N,cY (gC bx) (N+1) (IntKind.i64.wrap (((1:Nat):Int)-1),PV.rm 3 ks vs,1,dE n (fun _=>none),[PV.agg [.int .i64 s,.int .i64 0,.int .i64 0,.int .i64 0]],())=bx.run (dQ bx) (.rm 3 ks vs,dE n (fun _=>none),1,[PV.agg [.int .i64 s,.int .i64 0,.int .i64 0,.int .i64 0]],()):=fun N=>by
   simp only[cY];generalize cY (gC bx) N=rec;unfold gC;dsimp only;have hg:decide (IntKind.i64.wrap (((1:Nat):Int)-1)>0)=false:=by decide
   rw[hg,cond_false,U,IN (by simp)]
  exact first 18446744073709551615
 ·congr 1;have:((List.range n).map fun v=>if v<0 then rB v none else PV.agg [.int .i64 0,.int .i64 0,.int .i64 0])=List.replicate n (PV.agg [.int .i64 0,.int .i64 0,.int .i64 0]):=by
   apply ag5;intro i;by_cases hi:i<n
   ·simp[hi,ag9]
   ·rw[afi (by simp;omega),afi (by simp;omega)]
  rw[this];rfl
end
theorem Xj{S R:Type}{body:S→(S→Option R)→Option R}{s:S}{r:Option R}(h:∀rec,body s rec=r):bx.run body s=r:=bT (fun _=>s) 0 (fun k hk=>by omega) h (by unfold rounds;omega) rfl
def rC(n k:Nat)(F:Nat→PV)(z:PV):List PV:=(List.range n).map fun v=>if v<k then F v else z
theorem JR(n k:Nat)(F:Nat→PV)(z:PV):(rC n k F z).length=n:=by simp[rC]
theorem JS{n k:Nat}{F:Nat→PV}{z:PV}(hk:k<n):(rC n k F z)[k]?=some z:=by simp[rC,hk]
theorem JT{n k:Nat}{F:Nat→PV}{z:PV}(hk:k<n):(rC n k F z).set k (F k)=rC n (k+1) F z:=by
 apply ag5;intro i;rw[ahb];by_cases e:k=i
 ·subst e;simp[rC,hk]
 ·rw[IN e];unfold rC;by_cases hi:i<n
  ·simp only[IS,ahS hi,adN];by_cases h1:i<k
   ·rw[BY h1,BY (by omega)]
   ·rw[IN h1,IN (by omega)]
  ·rw[afi (by simp;omega),afi (by simp;omega)]
theorem Gj(n:Nat)(F:Nat→PV)(z:PV):rC n 0 F z=List.replicate n z:=by
 unfold rC;apply ag5;intro i;by_cases hi:i<n
 ·simp[hi,ag9]
 ·rw[afi (by simp;omega),afi (by simp;omega)]
theorem JU(n:Nat)(F:Nat→PV)(z:PV):rC n n F z=(List.range n).map F:=by unfold rC;apply ahc;intro v hv;rw[BY (aib.1 hv)]
def HH:Lab→Int
 |none=> -1
 |some (L,_)=>L
theorem ae7(v:Nat)(l:Lab):asInt .i64 (cell (rB v l) 1)=some (HH l):=by
 cases l with
 |none=>rfl
 |some p=>obtain⟨L,e⟩:=p;rfl
theorem N8(n:Nat)(hn:n≤64)(o:nC):fL [.rs 3 (dE n o)]=some (.rs 1 ((List.range n).map fun v=>.int .i64 (HH (o v)))):=by
 have e0:aQ 3 (.rs 3 (dE n o))=some (dE n o):=by simp[aQ]
 have gu:(0:Int)≤((n:Nat):Int)∧((n:Nat):Int)≤((n:Nat):Int)∧n*8≤aj∧0<8∧0<1:=by refine⟨by omega,by omega,?_,by omega,by omega⟩;unfold aj;omega
 simp only[fL,nd,e0,U,pF,afm,BY gu];refine bT (fun k=>(dE n o,(n:Int),(k:Int),rC n k (fun v=>.int .i64 (HH (o v))) (.int .i64 0),())) n (fun k hk rec=>?_) (fun rec=>?_) (by unfold rounds;omega) ?_
 ·unfold kD;dsimp only;have hg:decide ((k:Int)<(n:Int))=true:=by simp;omega
  rw[BY hg,aV,pG o hk,U,ae7,U,BY (Cf (by rw[JR];exact hk)),afm,JS hk,U,ah (by omega)];rw[JT (F:=fun v=>PV.int .i64 (HH (o v))) hk]
 ·unfold kD;dsimp only;rw[IN (by simp),JU]
 ·rw[Gj];rfl
theorem DR(i n:Nat)(h:i<n):dt [.int .i64 i,.rp [.int .i64 n]]=some (.bool false):=by
 have h1:decide ((i:Int)<0)=false:=by simp
 have h2:decide ((i:Int)≥(n:Int))=false:=by simp;omega
 simp only[dt,nb,Es,U,h1,cond_false,h2]
theorem ed0(y:Ed):cell y.pv 0=.int .i64 y.f:=rfl
theorem U5(E:List Ed)(n:Nat)(hn:n≤64)(hE:E.length≤4096)(h:∀y∈E,y.f<n∧y.t<n∧y.c≤1073741824):gW [.int .i64 n,.rs 3 (E.map Ed.pv),.rs 0 []]=some (.int .i64 0):=by
 have e0:aQ 3 (.rs 3 (E.map Ed.pv))=some (E.map Ed.pv):=by simp[aQ]
 have e1:aQ 1 (.rs 0 [])=some []:=by simp[aQ]
 have h1:decide ((n:Int)<0)=false:=by simp
 have h2:decide ((n:Int)>64)=false:=by simp;omega
 have h3:¬decide (((E.map Ed.pv).length:Int)>4096)=true:=by simp;omega
 simp only[gW,qq,Es,e0,e1,U,h1,h2,cond_false,AT,Xq,IN h3];refine bT (fun k=>(([]:List PV),E.map Ed.pv,((E.map Ed.pv).length:Int),(k:Int),(n:Int),())) E.length (fun k hk rec=>?_) (fun rec=>?_) (by unfold rounds;omega) rfl
 ·unfold mJ;dsimp only;have hg:decide ((k:Int)<((E.map Ed.pv).length:Int))=true:=by simp;omega
  obtain⟨z,hz⟩:∃z,E[k]?=some z:=⟨_,AS hk⟩;have EF:(E.map Ed.pv)[k]?=some z.pv:=by rw[IS,hz];rfl
  obtain⟨a1,a2,a3⟩:=h z (aaQ hz);have h4:decide ((z.c:Int)<0)=false:=by simp
  have h5:decide ((z.c:Int)>1073741824)=false:=by simp;omega
  simp only[hg,T1,aV,EF,U,ed0,ed1,ed2,Es,DR _ _ a1,DR _ _ a2,asBool,cond_false,AT,Xq,h4,h5,ah (show k<9223372036854775807 by omega)]
 ·unfold mJ;dsimp only;rw[IN (by simp)];refine Xj fun rec=>?_;unfold rD;dsimp only;rw[IN (by simp)]
abbrev HI:=List (Nat×List Ed)
def HJ(z:Ed):HI→HI
 |[]=>[(z.f,[z])]
 |(a,l)::r=>if z.f=a then(a,l++[z])::r else(a,l)::HJ z r
def oi(v:Nat):HI→List Ed
 |[]=>[]
 |(a,l)::r=>if v=a then l else oi v r
def Gk(m:HI):List (PV×PV):=m.map fun x=>(.int .i64 x.1,.pd 3 (x.2.map Ed.pv))
theorem U6(a b:Nat):dF (PV.int .i64 a).cells (PV.int .i64 b).cells=decide (a=b):=by
 have:((a:Int)==(b:Int))=decide (a=b):=by
  by_cases h:a=b
  ·simp[h]
  ·rw[ahf h,aho];omega
 simp only[PV.cells,dF,peq,ahY,this]
theorem ab4(v:Nat):∀m:HI,Ia 3 (.int .i64 v) (Gk m)=some ((oi v m).map Ed.pv)
 |[]=>rfl
 |(a,l)::r=>by
  have ih:=ab4 v r;unfold Gk at ih⊢;simp only[agP,Ia,oi,U6];by_cases h:v=a
  ·simp[h,eK]
  ·simp only[h,agY,AT,Xq];exact ih
theorem Qj(z:Ed):∀m:HI,eG (.int .i64 z.f) (.pd 3 ((oi z.f m).map Ed.pv++[z.pv])) (ri (.int .i64 z.f) (Gk m))=Gk (HJ z m)
 |[]=>by simp[Gk,ri,eG,HJ,oi]
 |(a,l)::r=>by
  have ih:=Qj z r;unfold Gk at ih⊢;simp only[agP,ri,HJ,oi,U6];by_cases h:z.f=a
  ·subst h;simp[eG,U6]
  ·simp only[h,agY,AT,Xq,eG,U6,agP];rw[ih]
theorem Gl(v:Nat)(z:Ed):∀m:HI,oi v (HJ z m)=oi v m++(if z.f=v then[z]else[])
 |[]=>by
  simp only[HJ,oi];by_cases h:v=z.f
  ·simp[h]
  ·rw[IN h,IN fun e=>h e.symm];rfl
 |(a,l)::r=>by
  simp only[HJ];by_cases h:z.f=a
  ·subst h;simp only[T1,oi];by_cases hv:v=z.f
   ·simp[hv]
   ·rw[IN hv,IN hv,IN fun e=>hv e.symm];simp
  ·rw[IN h];simp only[oi];by_cases hv:v=a
   ·subst hv;rw[BY rfl,BY rfl,IN h];simp
   ·rw[IN hv,IN hv];exact Gl v z r
def wX(E:List Ed):HI:=E.foldl (fun m z=>HJ z m) []
theorem Gm(E:List Ed)(z:Ed):wX (E++[z])=HJ z (wX E):=by simp[wX]
theorem Gn(v:Nat)(E:List Ed):oi v (wX E)=E.filter fun y=>y.f==v:=by
 rw[←aiV E];induction E.reverse with
 |nil=>rfl
 |cons z l ih=>
  rw[ajj,Gm,Gl,ih,aiE];by_cases h:z.f=v
  ·simp[h]
  ·simp[h]
theorem ab5(v:Nat):∀m:HI,aQ 3 (dD (.int .i64 v) (.rs 0 []) (((Gk m).map fun x=>x.1).zip ((Gk m).map fun x=>x.2.mW)))=some ((oi v m).map Ed.pv)
 |[]=>by simp[Gk,dD,aQ,oi]
 |(a,l)::r=>by
  have ih:=ab5 v r;unfold Gk at ih⊢;simp only[agP,ajc,dD,U6,oi];by_cases h:v=a
  ·simp[h,PV.mW,aQ]
  ·simp only[h,agY,AT,Xq];exact ih
theorem HK(E:List Ed)(hE:E.length≤4096):eF [.rs 3 (E.map Ed.pv),.bool false]=some (.rm 3 ((Gk (wX E)).map fun x=>x.1) ((Gk (wX E)).map fun x=>x.2.mW)):=by
 have e0:aQ 3 (.rs 3 (E.map Ed.pv))=some (E.map Ed.pv):=by simp[aQ]
 simp only[eF,lD,e0,U,asBool];refine bT (fun k=>(false,E.map Ed.pv,((E.map Ed.pv).length:Int),(k:Int),Gk (wX (E.take k)),())) E.length (fun k hk rec=>?_) (fun rec=>?_) (by unfold rounds;omega) (by simp[wX,Gk])
 ·unfold jc;dsimp only;have hg:decide ((k:Int)<((E.map Ed.pv).length:Int))=true:=by simp;omega
  obtain⟨z,hz⟩:∃z,E[k]?=some z:=⟨_,AS hk⟩;have EF:(E.map Ed.pv)[k]?=some z.pv:=by rw[IS,hz];rfl
  have htk:E.take (k+1)=E.take k++[z]:=by rw[ajm,hz];rfl
  have hce:PV.agg [cell z.pv 0,cell z.pv 1,cell z.pv 2]=z.pv:=rfl;have hlen:((oi z.f (wX (E.take k))).map Ed.pv++[z.pv]).length*24≤aj∧0<24:=by
   have:(oi z.f (wX (E.take k))).length≤E.length:=by rw[Gn];exact ahl (ajD ..) (by rw[ahu];omega)
   simp only[ag1,T0,agU,ahg];unfold aj;omega
  rw[BY hg,aV,EF,U,IN (by simp)];have ae8:PV.agg [.int .i64 z.f,cell z.pv 1,cell z.pv 2]=z.pv:=rfl;simp only[ed0,Es,U,ab4,ae8,BY hlen];rw[Qj,htk,Gm,ah (by omega)]
 ·unfold jc;dsimp only;rw[IN (by simp),aht]
theorem U7(E:List Ed)(n:Nat)(hn:n≤64)(hE:E.length≤4096)(h:∀y∈E,y.f<n∧y.t<n∧y.c≤1073741824):Gr E n ((Gk (wX E)).map fun x=>x.1) ((Gk (wX E)).map fun x=>x.2.mW):=⟨by omega,by omega,h,fun v _=>by rw[ab5,Gn]⟩
end Go.Ab.Nw
