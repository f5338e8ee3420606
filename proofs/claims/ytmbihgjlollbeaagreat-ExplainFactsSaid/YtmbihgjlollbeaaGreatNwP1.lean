import Derived.Test.YtmbihgjlollbeaaGreatAbLib
import Derived.Test.YtmbihgjlollbeaaGreatSh6
namespace Go.Ab.Nw
section
variable (w:Nat→Nat→Nat→Prop)
def J1:Nat→Nat→Nat→Nat→Prop
 |0,i,j,L=>w i j L
 |k+1,i,j,L=>J1 k i j L∨∃A B,J1 k i k A∧J1 k k j B∧L=A+B
inductive nG:Nat→Nat→Nat→Prop
 |Mu {i j c:Nat}:w i j c→nG i j c
 |snoc {i m j A c:Nat}:nG i m A→w m j c→nG i j (A+c)
end
section
variable {w:Nat→Nat→Nat→Prop}
variable{i j L:Nat}
theorem J1.up{k:Nat}(h:J1 w k i j L):J1 w (k+1) i j L:=.inl h
theorem J1.le{k k':Nat}(hk:k≤k')(h:J1 w k i j L):J1 w k' i j L:=by
 induction hk with
 |refl=>omega
 |step _ ih=>exact ih.up
theorem Hw:∀(k:Nat){m i j A B:Nat},m<k→J1 w k i m A→J1 w k m j B→∃C,C≤A+B∧J1 w k i j C
 |0,_,_,_,_,_,h,_,_=>by omega
 |k+1,m,i,j,A,B,h,ha,hb=>by
  by_cases hm:m=k
  ·subst hm;have h1:∃A',A'≤A∧J1 w m i m A':=by
    rcases ha with ha|⟨X,Y,x,y,e⟩
    ·grind
    grind
   have h2:∃B',B'≤B∧J1 w m m j B':=by
    rcases hb with hb|⟨X,Y,x,y,e⟩
    ·grind
    grind
   obtain⟨A',a1,a2⟩:=h1;obtain⟨B',b1,b2⟩:=h2;exact⟨A'+B',by omega,.inr ⟨A',B',a2,b2,rfl⟩⟩
  ·have cd:m<k:=by omega
   rcases ha with ha|⟨X,Y,x,y,e⟩
   ·rcases hb with hb|⟨X',Y',x',y',e'⟩
    ·obtain⟨C,c1,c2⟩:=Hw k cd ha hb;exact⟨C,c1,.inl c2⟩
    ·obtain⟨C,c1,c2⟩:=Hw k cd ha x';exact⟨C+Y',by omega,.inr ⟨C,Y',c2,y',rfl⟩⟩
   ·rcases hb with hb|⟨X',Y',x',y',e'⟩
    ·obtain⟨C,c1,c2⟩:=Hw k cd y hb;exact⟨X+C,by omega,.inr ⟨X,C,x,c2,rfl⟩⟩
    ·exact⟨X+Y',by omega,.inr ⟨X,Y',x,y',rfl⟩⟩
theorem nG.join{m A B:Nat}(h1:nG w i m A)(h2:nG w m j B):nG w i j (A+B):=by
 induction h2 with
 |Mu h=>exact .snoc h1 h
 |snoc _ h ih=>rw[←asQ];exact .snoc ih h
theorem J1.walk:∀{k i j L:Nat},J1 w k i j L→nG w i j L
 |0,_,_,_,h=>.Mu h
 |k+1,i,j,L,.inl h=>J1.walk (k:=k) h
 |k+1,i,j,L,.inr ⟨A,B,h1,h2,e⟩=>by rw[e];exact(J1.walk (k:=k) h1).join (J1.walk (k:=k) h2)
theorem nG.via{n:Nat}(hn:∀i j c,w i j c→i<n)(h:nG w i j L):∃C,C≤L∧J1 w n i j C:=by
 induction h with
 |Mu h=>exact⟨_,aso _,J1.le (avj _) (show J1 w 0 _ _ _ from h)⟩
 |snoc _ h ih=>obtain⟨C,c1,c2⟩:=ih;obtain⟨D,d1,d2⟩:=Hw n (hn _ _ _ h) c2 (J1.le (avj _) (show J1 w 0 _ _ _ from h));grind
variable{w':Nat→Nat→Nat→Prop}
theorem nG.mono(hw:∀i j c,w i j c→w' i j c)(h:nG w i j L):nG w' i j L:=by
 induction h with
 |Mu h=>exact .Mu (hw _ _ _ h)
 |snoc _ h ih=>exact .snoc ih (hw _ _ _ h)
theorem nG.leq(hw:∀i j c,w i j c→∃c',c'≤c∧w' i j c')(h:nG w i j L):∃L',L'≤L∧nG w' i j L':=by
 induction h with
 |Mu h=>obtain⟨c',h1,h2⟩:=hw _ _ _ h;exact⟨c',h1,.Mu h2⟩
 |snoc _ h ih=>obtain⟨c',h1,h2⟩:=hw _ _ _ h;obtain⟨L',l1,l2⟩:=ih;exact⟨L'+c',by omega,.snoc l2 h2⟩
def Xm(w:Nat→Nat→Nat→Prop)(i j:Nat)(o:Option Nat):Prop:=match o with
 |some L=>nG w i j L∧∀L',nG w i j L'→L≤L'
 |none=>∀L',¬nG w i j L'
theorem Xm.unique{o o':Option Nat}(h:Xm w i j o)(h':Xm w i j o'):o=o':=by
 cases o with
 |none=>cases o' with
  |none=>rfl
  |some L=>exact absurd h'.1 (h L)
 |some L=>cases o' with
  |none=>exact absurd h.1 (h' L)
  |some L'=>rw[Nat.le_antisymm (h.2 _ h'.1) (h'.2 _ h.1)]
structure Fw(w:Nat→Nat→Nat→Prop)(inf:Nat)(n:Nat)(d:Nat→Nat→Nat):Prop where
 top:∀i j,i<n→j<n→d i j≤inf
 real:∀i j,i<n→j<n→d i j<inf→nG w i j (d i j)
def xg(w:Nat→Nat→Nat→Prop)(k i j:Nat)(x:Nat):Prop:=∀L,J1 w k i j L→x≤L
variable{d:Nat→Nat→Nat}
theorem ahv{inf n k:Nat}(h:Fw w inf n d)(hi:i<n)(hj:j<n)(hk:k<n){x:Nat}(hx:x=min (d i j) (d i k+d k j)){d':Nat→Nat→Nat}(hd:∀a b,d' a b=if a=i∧b=j then x else d a b):Fw w inf n d'∧(∀a b,d' a b≤d a b)∧(xg w k i k (d i k)→xg w k k j (d k j)→xg w k i j (d i j)→xg w (k+1) i j (d' i j)):=by
 refine⟨⟨fun a b ha hb=>?_,fun a b ha hb cd=>?_⟩,fun a b=>?_,fun h1 h2 h3 L hL=>?_⟩
 ·rw[hd];split
  ·have:=h.top i j hi hj;omega
  ·exact h.top a b ha hb
 ·rw[hd]at cd⊢;split
  ·rename_i e;rw[IN e]at cd;obtain⟨rfl,rfl⟩:=e;by_cases hm:d a b≤d a k+d k b
   ·rw[show x=d a b by omega]at cd⊢;exact h.real a b ha hb cd
   ·have e2:x=d a k+d k b:=by omega
    rw[e2]at cd⊢;exact(h.real a k ha hk (by omega)).join (h.real k b hk hb (by omega))
  ·rename_i e;rw[IT e]at cd;exact h.real a b ha hb cd
 ·grind
 ·rw[hd,IN ⟨rfl,rfl⟩];rcases hL with hL|⟨A,B,a1,a2,e⟩
  ·have:=h3 _ hL;omega
  ·have:=h1 _ a1;have:=h2 _ a2;omega
theorem ahw{inf n:Nat}(hn:∀i j c,w i j c→i<n)(h:Fw w inf n d)(hi:i<n)(hj:j<n)(hb:xg w n i j (d i j))(uV:∀L,(∀L',nG w i j L'→L≤L')→nG w i j L→L<inf):Xm w i j (if d i j<inf then some (d i j)else none):=by
 have low:∀L,nG w i j L→d i j≤L:=fun L hL=>by obtain⟨C,c1,c2⟩:=hL.via hn;exact asT (hb C c2) c1
 split
 ·rename_i cd;exact⟨h.real i j hi hj cd,low⟩
 ·rename_i Kb;intro L hL;have key:∀m,(∃L,L≤m∧nG w i j L)→∃L,nG w i j L∧∀L',nG w i j L'→L≤L':=by
   intro m;induction m with
   |zero=>grind
   |succ m ih=>
    rintro⟨L,hl,hw⟩;by_cases he:∃L,L≤m∧nG w i j L
    ·exact ih he
    grind
  obtain⟨L0,h1,h2⟩:=key L ⟨L,aso _,hL⟩;grind
end
structure Nd where
 n:Nat
 len:Nat
 e:Nat
 num:Nat
 deriving DecidableEq,Inhabited
def Ny(a b:Nd):Bool:=decide (a.len<b.len∨(a.len=b.len∧(a.e<b.e∨(a.e=b.e∧a.num<b.num))))
def BG(a b:Nd):Prop:=Ny b a=false
theorem Xn(a b:Nd):Ny a b=true↔(a.len<b.len∨(a.len=b.len∧(a.e<b.e∨(a.e=b.e∧a.num<b.num)))):=by simp[Ny]
theorem Hx(a b:Nd):BG a b↔¬(b.len<a.len∨(b.len=a.len∧(b.e<a.e∨(b.e=a.e∧b.num<a.num)))):=by unfold BG;rw[←Xn];simp
theorem IJ(a:Nd):BG a a:=by rw[Hx];omega
theorem BH{a b c:Nd}(h:BG a b)(k:BG b c):BG a c:=by rw[Hx]at*;omega
theorem DF{a b:Nd}(h:Ny a b=true):BG a b:=by grind [Hx,Xn]
theorem ad3{a b:Nd}(h:BG a b):a.len≤b.len:=by rw[Hx]at h;omega
def ey(a:List Nd)(i:Nat):Nd:=a.getD i default
variable{a:List Nd}{i:Nat}
theorem Qe(h:i<a.length):a[i]?=some (ey a i):=by simp[ey,List.getD,h]
def swp(a:List Nd)(i k:Nat):List Nd:=(a.set i (ey a k)).set k (ey a i)
@[simp] theorem lQ(a:List Nd)(i k:Nat):(swp a i k).length=a.length:=by simp[swp]
theorem ajW(a:List Nd)(i j:Nat)(x:Nd)(h:i<a.length):ey (a.set i x) j=if j=i then x else ey a j:=by unfold ey List.getD;grind
theorem qR(a:List Nd)(i k j:Nat)(hi:i<a.length)(hk:k<a.length):ey (swp a i k) j=if j=k then ey a i else if j=i then ey a k else ey a j:=by simp_all[swp,ajW]
theorem IK{x:Nd}:x∈a↔∃i,i<a.length∧ey a i=x:=by
 rw[ast];constructor
 ·grind [Qe]
 ·rintro⟨i,hi,h⟩;exact⟨i,by rw[Qe hi,h]⟩
theorem Kj{k:Nat}(hi:i<a.length)(hk:k<a.length)(x:Nd):x∈swp a i k↔x∈a:=by
 rw[IK,IK];constructor
 ·rintro⟨j,hj,h⟩;rw[qR _ _ _ _ hi hk]at h;split at h
  ·exact⟨i,hi,h⟩
  ·split at h
   ·exact⟨k,hk,h⟩
   ·exact⟨j,by simpa using hj,h⟩
 ·rintro⟨j,hj,h⟩;by_cases e1:j=i
  ·subst e1;refine⟨k,by simpa using hk,?_⟩;rw[qR _ _ _ _ hi hk,IN rfl,h]
  ·by_cases e2:j=k
   ·subst e2;refine⟨i,by simpa using hi,?_⟩;rw[qR _ _ _ _ hi hk];simp_all
   ·exact⟨j,by simpa using hj,by simp_all[qR,IT]⟩
def Hp(a:List Nd):Prop:=∀j,0<j→j<a.length→BG (ey a ((j-1)/2)) (ey a j)
theorem Hp.min(h:Hp a):∀j,j<a.length→BG (ey a 0) (ey a j):=by
 intro j;induction j using Nat.strongRecOn with
 |ind j ih=>
  intro hj;by_cases h0:j=0
  ·subst h0;exact IJ _
  ·exact BH (ih ((j-1)/2) (by omega) (by omega)) (h j (by omega) hj)
def UpI(a:List Nd)(i:Nat):Prop:=(∀j,0<j→j<a.length→j≠i→BG (ey a ((j-1)/2)) (ey a j))∧∀c,0<c→c<a.length→(c-1)/2=i→0<i→BG (ey a ((i-1)/2)) (ey a c)
theorem UpI.done(h:UpI a i)(hi:i<a.length)(hs:i=0∨Ny (ey a i) (ey a ((i-1)/2))=false):Hp a:=by
 intro j h0 hj;by_cases e:j=i
 ·subst e;rcases hs with hs|hs
  ·omega
  ·exact hs
 ·exact h.1 j h0 hj e
theorem UpI.step(h:UpI a i)(h0:0<i)(hi:i<a.length)(hb:Ny (ey a i) (ey a ((i-1)/2))=true):UpI (swp a i ((i-1)/2)) ((i-1)/2):=by
 have hp:(i-1)/2<a.length:=by omega
 have hpi:(i-1)/2<i:=by omega
 obtain⟨p,Py⟩:∃p,p=(i-1)/2:=⟨_,rfl⟩;rw[←Py]at hp hpi hb⊢;have hle:=DF hb;refine⟨fun j j0 hj cU=>?_,fun c c0 hc hcp Qy=>?_⟩
 ·rw[lQ]at hj;rw[qR _ _ _ _ hi hp,qR _ _ _ _ hi hp,IT cU];by_cases e1:j=i
  ·simp_all
  ·rw[IT e1];by_cases e2:(j-1)/2=p
   ·rw[IN e2];have:=h.1 j j0 hj e1;grind [BH]
   ·rw[IT e2];by_cases e3:(j-1)/2=i
    ·rw[IN e3];have:=h.2 j j0 hj e3 h0;simp_all
    ·rw[IT e3];exact h.1 j j0 hj e1
 ·rw[lQ]at hc;have hpp:(p-1)/2≠p∧(p-1)/2≠i:=by omega
  rw[qR _ _ _ _ hi hp,qR _ _ _ _ hi hp,IT hpp.1,IT hpp.2];have h1:=h.1 p Qy hp (by omega);by_cases e1:c=p
  ·omega
  ·rw[IT e1];by_cases e2:c=i
   ·rw[IN e2];omega
   ·rw[IT e2];have:=h.1 c c0 hc e2;grind [BH]
theorem UpI.start(h:Hp a)(x:Nd):UpI (a++[x]) a.length:=by
 have Uy:∀j,j<a.length→ey (a++[x]) j=ey a j:=fun j hj=>by simp[ey,List.getD,asY hj]
 refine⟨fun j j0 hj cU=>?_,fun c c0 hc hcp h0=>?_⟩
 ·have:j<a.length:=by simp at hj;omega
  rw[Uy _ (by omega),Uy _ this];exact h j j0 this
 ·simp at hc;omega
def DnI(a:List Nd)(i:Nat):Prop:=(∀j,0<j→j<a.length→(j-1)/2≠i→BG (ey a ((j-1)/2)) (ey a j))∧∀c,0<c→c<a.length→(c-1)/2=i→0<i→BG (ey a ((i-1)/2)) (ey a c)
theorem DnI.done(h:DnI a i)(hs:∀c,0<c→c<a.length→(c-1)/2=i→BG (ey a i) (ey a c)):Hp a:=by
 intro j h0 hj;by_cases e:(j-1)/2=i
 ·simp_all
 ·exact h.1 j h0 hj e
theorem DnI.step{k:Nat}(h:DnI a i)(hk:k<a.length)(hki:k=2*i+1∨k=2*i+2)(ab6:∀c,0<c→c<a.length→(c-1)/2=i→BG (ey a k) (ey a c))(hb:Ny (ey a k) (ey a i)=true):DnI (swp a i k) k:=by
 have hi:i<a.length:=by omega
 have hle:=DF hb;have hpk:(k-1)/2=i:=by omega
 refine⟨fun j j0 hj cU=>?_,fun c c0 hc hcp hk0=>?_⟩
 ·rw[lQ]at hj;rw[qR _ _ _ _ hi hk,qR _ _ _ _ hi hk,IT cU];by_cases e1:j=k
  ·simp_all
  ·rw[IT e1];by_cases e2:(j-1)/2=i
   ·grind
   ·rw[IT e2];by_cases e3:j=i
    ·rw[IN e3];have:=h.2 k (by omega) hk hpk (by omega);rw[e3];omega
    ·rw[IT e3];exact h.1 j j0 hj e2
 ·rw[lQ]at hc;rw[qR _ _ _ _ hi hk,qR _ _ _ _ hi hk,hpk,IT (by omega),IN rfl,IT (by omega),IT (by omega)];have:=h.1 c c0 hc (by omega);simp_all
theorem DnI.start(h:Hp a)(cU:0<a.length):DnI ((swp a 0 (a.length-1)).take (a.length-1)) 0:=by
 have hl:((swp a 0 (a.length-1)).take (a.length-1)).length=a.length-1:=by simp
 have Uy:∀j,0<j→j<a.length-1→ey ((swp a 0 (a.length-1)).take (a.length-1)) j=ey a j:=fun j j0 hj=>by
  have:ey ((swp a 0 (a.length-1)).take (a.length-1)) j=ey (swp a 0 (a.length-1)) j:=by simp[ey,List.getD,atH hj]
  rw[this,qR _ _ _ _ (by omega) (by omega),IT (by omega),IT (by omega)]
 refine⟨fun j j0 hj cU=>?_,fun c _ _ _ h0=>by omega⟩;rw[hl]at hj;rw[Uy j j0 hj,Uy _ (by omega) (by omega)];exact h j j0 (by omega)
theorem Xo(cU:0<a.length)(y:Nd):(y∈(swp a 0 (a.length-1)).take (a.length-1)→y∈a)∧(y∈a→y=ey a 0∨y∈(swp a 0 (a.length-1)).take (a.length-1)):=by
 refine⟨fun h=>(Kj cU (by omega) y).1 (atl h),fun h=>?_⟩;have h:=(Kj (i:=0) (k:=a.length-1) cU (by omega) y).2 h;rw[IK]at h;obtain⟨j,hj,e⟩:=h;rw[lQ]at hj;by_cases hl:j=a.length-1
 ·simp_all[qR,IN]
 ·right;rw[ast];refine⟨j,?_⟩;rw[atH (by omega),Qe (by simpa using hj),e]
theorem aa7{S R A:Type}{body:S→(S→Option R)→Option R}(st:A→S)(I:A→Prop)(m:A→Nat)(fin:A→Option R→Prop)(h:∀a,I a→∀rec,(∃a',I a'∧m a'<m a∧body (st a) rec=rec (st a'))∨(∃r,fin a r∧body (st a) rec=r)):∀N a,I a→m a<N→∃a' r,I a'∧fin a' r∧cE body N (st a)=r:=by
 intro N;induction N with
 |zero=>omega
 |succ N ih=>
  intro a hI hm;simp only[cE];rcases h a hI (cE body N)with⟨a',h1,h2,h3⟩|⟨r,h1,h2⟩
  ·grind
  grind
def up:Nat→List Nd→Nat→List Nd
 |0,a,_=>a
 |f+1,a,i=>if 0<i∧Ny (ey a i) (ey a ((i-1)/2))=true then up f (swp a i ((i-1)/2)) ((i-1)/2)else a
def push(a:List Nd)(x:Nd):List Nd:=up (a.length+1) (a++[x]) a.length
def OP(a:List Nd)(i:Nat):Nat:=if 2*i+1+1<a.length∧Ny (ey a (2*i+1+1)) (ey a (2*i+1))=true then 2*i+1+1 else 2*i+1
def down:Nat→List Nd→Nat→List Nd
 |0,a,_=>a
 |f+1,a,i=>if a.length≤2*i+1 then a else if Ny (ey a (OP a i)) (ey a i)=true then down f (swp a i (OP a i)) (OP a i)else a
def Vy(a:List Nd):List Nd:=(swp a 0 (a.length-1)).take (a.length-1)
def rest(a:List Nd):List Nd:=down (a.length+1) (Vy a) 0
theorem aiw:∀(f:Nat){a:List Nd}{i:Nat},i<f→i<a.length→UpI a i→Hp (up f a i)∧(up f a i).length=a.length∧∀x,x∈up f a i↔x∈a
 |0,_,_,h,_,_=>by omega
 |f+1,a,i,hf,hi,h=>by
  unfold up;split
  ·rename_i hc;have hp:(i-1)/2<a.length:=by omega
   obtain⟨h1,h2,h3⟩:=aiw f (a:=swp a i ((i-1)/2)) (i:=(i-1)/2) (by omega) (by rw[lQ];omega) (h.step hc.1 hi hc.2);simp_all[lQ,Kj]
  ·rename_i hc;refine⟨h.done hi ?_,rfl,fun x=>Iff.rfl⟩;grind
variable{a:List Nd}
theorem ahx(h:Hp a)(x:Nd):Hp (push a x)∧(push a x).length=a.length+1∧∀y,y∈push a x↔y∈a∨y=x:=by simp_all[aiw,UpI.start,push]
theorem ad4{i:Nat}(h:¬a.length≤2*i+1):OP a i<a.length∧(OP a i=2*i+1∨OP a i=2*i+2)∧∀c,0<c→c<a.length→(c-1)/2=i→BG (ey a (OP a i)) (ey a c):=by
 unfold OP;split
 ·rename_i hc;refine⟨by omega,.inr rfl,fun c c0 hl hp=>?_⟩;have:c=2*i+1∨c=2*i+1+1:=by omega
  rcases this with rfl|rfl
  ·exact DF hc.2
  ·exact IJ _
 ·rename_i hc;refine⟨by omega,.inl rfl,fun c c0 hl hp=>?_⟩;have:c=2*i+1∨c=2*i+1+1:=by omega
  rcases this with rfl|rfl
  ·exact IJ _
  ·unfold BG;simp_all
theorem Xp:∀(f:Nat){a:List Nd}{i:Nat},a.length≤f+i→DnI a i→Hp (down f a i)∧(down f a i).length=a.length∧∀x,x∈down f a i↔x∈a
 |0,a,i,hf,h=>⟨h.done fun c c0 hc hp=>by omega,rfl,fun x=>Iff.rfl⟩
 |f+1,a,i,hf,h=>by
  unfold down;split
  ·exact⟨h.done fun c c0 hc hp=>by omega,rfl,fun x=>Iff.rfl⟩
  ·rename_i hl;obtain⟨k1,k2,k3⟩:=ad4 hl;split
   ·rename_i hb;obtain⟨h1,h2,h3⟩:=Xp f (a:=swp a i (OP a i)) (i:=OP a i) (by rw[lQ];omega) (h.step k1 k2 k3 hb);grind [lQ,Kj]
   ·rename_i hb;refine⟨h.done fun c c0 hc hp=>BH ?_ (k3 c c0 hc hp),rfl,fun x=>Iff.rfl⟩;simp_all[BG,atf]
theorem Qf(h:Hp a)(cU:0<a.length):Hp (rest a)∧(rest a).length=a.length-1∧(∀y∈rest a,y∈a)∧(∀y∈a,y=ey a 0∨y∈rest a)∧∀y∈a,(ey a 0).len≤y.len:=by
 have hl:(Vy a).length=a.length-1:=by simp[Vy]
 obtain⟨h1,h2,h3⟩:=Xp (a.length+1) (a:=Vy a) (i:=0) (by omega) (DnI.start h cU);refine⟨h1,by unfold rest;omega,fun y hy=>?_,fun y hy=>?_,fun y hy=>?_⟩
 ·exact(Xo cU y).1 ((h3 y).1 hy)
 ·rcases(Xo cU y).2 hy with h|h
  ·exact .inl h
  ·exact .inr ((h3 y).2 h)
 ·obtain⟨j,hj,rfl⟩:=IK.1 hy;exact ad3 (h.min j hj)
structure Ed where
 f:Nat
 t:Nat
 c:Nat
 deriving DecidableEq,Inhabited
def ew(E:List Ed)(i j c:Nat):Prop:=(⟨i,j,c⟩:Ed)∈E
abbrev Lab:=Option (Nat×Nat)
abbrev sm:=Nat→Lab
def EV(o:sm)(v:Nat)(l:Lab):sm:=fun u=>if u=v then l else o u
def DG(E:List Ed)(o:sm):Nat:=E.countP fun y=>(o y.f).isNone
def Nz(n:Nat)(o:sm):Nat:=(List.range n).countP fun v=>(o v).isSome
def Qg(E:List Ed)(s v L:Nat):Prop:=(v=s∧L=0)∨nG (ew E) s v L
structure DI(E:List Ed)(n s B:Nat)(o:sm)(pu:Nat)(H:List Nd):Prop where
 hp:Hp H
 node:∀x∈H,x.n<n
 real:∀x∈H,Qg E s x.n x.len
 pC:∀v L e,v<n→o v=some (L,e)→Qg E s v L∧∀L',Qg E s v L'→L≤L'
 front:∀u L e v c,u<n→o u=some (L,e)→(⟨u,v,c⟩:Ed)∈E→o v=none→∃x∈H,x.n=v∧x.len≤L+c
 src:o s=none→∃x∈H,x.n=s∧x.len=0
 ad5:∀x∈H,x.len≤B*Nz n o∧x.e≤Nz n o
 ajX:∀v L e,v<n→o v=some (L,e)→L≤B*n∧e≤n
 cnt:pu+DG E o≤1+E.length
 ajY:H.length≤pu
theorem Xq(n:Nat)(o:sm):Nz n o≤n:=by grind [Nz,List.countP_le_length,List.range]
theorem JJ{A:Type}[DecidableEq A]{p q:A→Bool}{v:A}:∀{l:List A},l.Nodup→v∈l→(∀u,u≠v→p u=q u)→p v=false→q v=true→l.countP q=l.countP p+1
 |a::l,hn,hv,hpq,h0,h1=>by
  rw[auA]at hn;rw[aul,aul];by_cases e:a=v
  ·grind [List.countP_congr]
  ·have hv':v∈l:=by grind
   rw[JJ hn.2 hv' hpq h0 h1,hpq a e];omega
variable{o:sm}
theorem ad6{n:Nat}{v:Nat}{l:Nat×Nat}(hv:v<n)(h:o v=none):Nz n (EV o v (some l))=Nz n o+1:=JJ (p:=fun v=>(o v).isSome) (q:=fun u=>(EV o v (some l) u).isSome) (v:=v) List.nodup_range (ata.2 hv) (fun u hu=>by simp[EV,hu]) (by simp[h]) (by simp[EV])
theorem DI.least{E:List Ed}{n s B:Nat}{pu:Nat}{H:List Nd}(h:DI E n s B o pu H)(hE:∀y∈E,y.f<n∧y.t<n){v L:Nat}(hv:o v=none)(hw:Qg E s v L):∃x∈H,x.len≤L:=by
 cases hs:o s with
 |none=>obtain⟨x,h1,_,h2⟩:=h.src hs;grind
 |some l=>
  obtain⟨Ls,es⟩:=l;rcases hw with⟨rfl,_⟩|hw
  ·rw[hs]at hv;cases hv
  have key:∀{v L:Nat},nG (ew E) s v L→o v=none→∃x∈H,x.len≤L:=by
   intro v L hw;induction hw with
   | @Mu j c hc=>intro hv;have kM:s<n:=(hE _ hc).1;obtain⟨x,h1,_,h2⟩:=h.front s Ls es j c kM hs hc hv;have:=(h.pC s Ls es kM hs).2 0 (.inl ⟨rfl,rfl⟩);grind
   | @snoc m j A c hA hc ih=>
    intro hv;cases hm:o m with
    |none=>grind
    |some l=>obtain⟨Lm,em⟩:=l;have kM:m<n:=(hE _ hc).1;obtain⟨x,h1,_,h2⟩:=h.front m Lm em j c kM hm hc hv;have:=(h.pC m Lm em kM hm).2 A (.inr hA);grind
  exact key hw hv
theorem DI.skip{E:List Ed}{n s B:Nat}{pu:Nat}{H:List Nd}(h:DI E n s B o pu H)(cU:0<H.length)(rU:(o (ey H 0).n).isSome=true):DI E n s B o pu (rest H):=by
 obtain⟨r1,r2,r3,r4,r5⟩:=Qf h.hp cU;have other:∀x∈H,o x.n=none→x∈rest H:=fun x hx hn=>by grind
 refine⟨r1,fun x hx=>h.node x (r3 x hx),fun x hx=>h.real x (r3 x hx),h.pC,fun u L e v c hu ho he hv=>?_,fun hs=>?_,fun x hx=>h.ad5 x (r3 x hx),h.ajX,h.cnt,by rw[r2];have:=h.ajY;omega⟩
 ·obtain⟨x,x1,x2,x3⟩:=h.front u L e v c hu ho he hv;grind
 ·obtain⟨x,x1,x2,x3⟩:=h.src hs;grind
def rL(o:sm)(x:Nd):List Ed→Nat→List Nd→Nat×List Nd
 |[],pu,H=>(pu,H)
 |z::es,pu,H=>if(o z.t).isNone=true then rL o x es (pu+1) (push H ⟨z.t,x.len+z.c,x.e+1,pu⟩)else rL o x es pu H
theorem Mv{o:sm}{x:Nd}:∀{es:List Ed}{pu:Nat}{H:List Nd},Hp H→∃k,k≤es.length∧(rL o x es pu H).1=pu+k∧(rL o x es pu H).2.length=H.length+k∧Hp (rL o x es pu H).2∧(∀y∈(rL o x es pu H).2,y∈H∨∃z∈es,o z.t=none∧y.n=z.t∧y.len=x.len+z.c∧y.e=x.e+1)∧(∀y∈H,y∈(rL o x es pu H).2)∧∀z∈es,o z.t=none→∃y∈(rL o x es pu H).2,y.n=z.t∧y.len=x.len+z.c
 |[],pu,H,h=>⟨0,aso _,rfl,rfl,h,fun y hy=>.inl hy,fun y hy=>hy,fun z hz=>by cases hz⟩
 |z::es,pu,H,h=>by
  unfold rL;split
  ·rename_i hz;have hz:o z.t=none:=by simpa using hz
   obtain⟨p1,p2,p3⟩:=ahx h ⟨z.t,x.len+z.c,x.e+1,pu⟩;obtain⟨k,k1,k2,k3,k4,k5,k6,k7⟩:=Mv (o:=o) (x:=x) (es:=es) (pu:=pu+1) p1;refine⟨k+1,by simp;omega,by omega,by omega,k4,fun y hy=>?_,fun y hy=>k6 y ((p3 y).2 (.inl hy)),fun z' hz' hn=>?_⟩
   ·grind
   ·rcases asg.1 hz' with rfl|hz'
    ·exact⟨_,k6 _ ((p3 _).2 (.inr rfl)),rfl,rfl⟩
    ·exact k7 z' hz' hn
  ·rename_i hz;obtain⟨k,k1,k2,k3,k4,k5,k6,k7⟩:=Mv (o:=o) (x:=x) (es:=es) (pu:=pu) h;refine⟨k,by simp;omega,k2,k3,k4,fun y hy=>?_,k6,fun z' hz' hn=>?_⟩
   ·simp_all
   grind
theorem ad7(E:List Ed)(o:sm)(v:Nat)(l:Nat×Nat)(h:o v=none):DG E o=DG E (EV o v (some l))+(E.filter fun y=>y.f==v).length:=by
 unfold DG;induction E with
 |nil=>rfl
 |cons y E ih=>grind [EV]
variable{E:List Ed}
theorem DI.settle{n s B:Nat}{o:sm}{pu:Nat}{H:List Nd}(h:DI E n s B o pu H)(hE:∀y∈E,y.f<n∧y.t<n∧y.c≤B)(cU:0<H.length)(Ib:o (ey H 0).n=none):DI E n s B (EV o (ey H 0).n (some ((ey H 0).len,(ey H 0).e))) (rL (EV o (ey H 0).n (some ((ey H 0).len,(ey H 0).e))) (ey H 0) (E.filter fun y=>y.f==(ey H 0).n) pu (rest H)).1 (rL (EV o (ey H 0).n (some ((ey H 0).len,(ey H 0).e))) (ey H 0) (E.filter fun y=>y.f==(ey H 0).n) pu (rest H)).2∧(rL (EV o (ey H 0).n (some ((ey H 0).len,(ey H 0).e))) (ey H 0) (E.filter fun y=>y.f==(ey H 0).n) pu (rest H)).2.length+DG E (EV o (ey H 0).n (some ((ey H 0).len,(ey H 0).e)))<H.length+DG E o:=by
 obtain⟨r1,r2,r3,r4,r5⟩:=Qf h.hp cU;obtain⟨x,hx⟩:∃x,x=ey H 0:=⟨_,rfl⟩;rw[←hx]at Ib r4 r5⊢;have hxm:x∈H:=IK.2 ⟨0,cU,hx.symm⟩;have hxn:=h.node x hxm;obtain⟨o1,ho1⟩:∃o1,o1=EV o x.n (some (x.len,x.e)):=⟨_,rfl⟩;rw[←ho1];have oo:∀v,o1 v=if v=x.n then some (x.len,x.e)else o v:=fun v=>by rw[ho1];rfl
 have on:∀v,o1 v=none→v≠x.n∧o v=none:=fun v hv=>by grind
 obtain⟨k,k1,k2,k3,k4,k5,k6,k7⟩:=Mv (o:=o1) (x:=x) (es:=E.filter fun y=>y.f==x.n) (pu:=pu) r1;have hs:Nz n o1=Nz n o+1:=by rw[ho1];exact ad6 hxn Ib
 have Z9:DG E o=DG E o1+(E.filter fun y=>y.f==x.n).length:=by grind [ad7]
 have mem:∀z,z∈(E.filter fun y=>y.f==x.n)↔z∈E∧z.f=x.n:=fun z=>by simp[auv]
 have go:∀z,z∈E→z.f=x.n→nG (ew E) s z.t (x.len+z.c):=fun z hz hf=>by
  have he:ew E x.n z.t z.c:=by
   unfold ew;have:(⟨x.n,z.t,z.c⟩:Ed)=z:=by rw[←hf]
   rw[this];omega
  rcases h.real x hxm with⟨e1,e2⟩|hw
  ·rw[e2,asZ];rw[e1]at he;exact .Mu he
  ·exact .snoc hw he
 have other:∀y∈H,y.n≠x.n→y∈(rL o1 x (E.filter fun y=>y.f==x.n) pu (rest H)).2:=fun y hy hn=>by grind
 refine⟨⟨k4,fun y hy=>?_,fun y hy=>?_,fun v L e hv ho=>?_,fun u L e v c hu ho he hv=>?_,fun hs'=>?_,fun y hy=>?_,fun v L e hv ho=>?_,?_,?_⟩,?_⟩
 ·rcases k5 y hy with h1|⟨z,z1,z2,z3,_⟩
  ·exact h.node y (r3 y h1)
  grind
 ·rcases k5 y hy with h1|⟨z,z1,z2,z3,z4,_⟩
  ·exact h.real y (r3 y h1)
  ·rw[z3,z4];exact .inr (go z ((mem z).1 z1).1 ((mem z).1 z1).2)
 ·rw[oo]at ho;split at ho
  ·rename_i e';simp only[cO,apa]at ho;obtain⟨rfl,rfl⟩:=ho;subst e';refine⟨h.real x hxm,fun L' hL=>?_⟩;obtain⟨y,y1,y2⟩:=h.least (fun y hy=>⟨(hE y hy).1,(hE y hy).2.1⟩) Ib hL;grind
  ·exact h.pC v L e hv ho
 ·obtain⟨v1,v2⟩:=on v hv;rw[oo]at ho;split at ho
  ·grind
  ·obtain⟨y,y1,y2,y3⟩:=h.front u L e v c hu ho he v2;grind
 ·obtain⟨v1,v2⟩:=on s hs';obtain⟨y,y1,y2,y3⟩:=h.src v2;grind
 ·rw[hs,Nat.mul_succ];rcases k5 y hy with h1|⟨z,z1,z2,z3,z4,z5⟩
  ·have:=h.ad5 y (r3 y h1);omega
  ·have:=h.ad5 x hxm;grind
 ·rw[oo]at ho;split at ho
  ·simp only[cO,apa]at ho;obtain⟨rfl,rfl⟩:=ho;have h1:=h.ad5 x hxm;have h2:=Xq n o;have h3:B*Nz n o≤B*n:=atw _ h2;omega
  ·exact h.ajX v L e hv ho
 ·have:=h.cnt;omega
 ·have:=h.ajY;omega
 omega
theorem DI.start{n s B:Nat}(hs:s<n):DI E n s B (fun _=>none) 1 [⟨s,0,0,0⟩]:=by
 refine⟨fun j j0 hj=>by simp at hj;omega,fun x hx=>?_,fun x hx=>?_,fun v L e _ h=>(by cases h),fun u L e v c _ h=>(by cases h),fun _=>⟨⟨s,0,0,0⟩,by simp,rfl,rfl⟩,fun x hx=>?_,fun v L e _ h=>(by cases h),?_,by simp⟩
 ·simp_all
 ·simp at hx;subst hx;exact .inl ⟨rfl,rfl⟩
 ·simp_all
 simp[DG]
theorem DI.done{n s B:Nat}{o:sm}{pu:Nat}(h:DI E n s B o pu [])(hE:∀y∈E,y.f<n∧y.t<n∧y.c≤B){v:Nat}(hv:v<n):match o v with
 |some (L,_)=>L≤B*n∧Qg E s v L∧∀L',Qg E s v L'→L≤L'
 |none=>∀L',¬Qg E s v L':=by
 cases ho:o v with
 |some l=>obtain⟨L,e⟩:=l;exact⟨(h.ajX v L e hv ho).1,h.pC v L e hv ho⟩
 |none=>
  intro L' hL
  obtain⟨x,hx,_⟩:=h.least (fun y hy=>⟨(hE y hy).1,(hE y hy).2.1⟩) ho hL
  cases hx
set_option maxRecDepth 100000
set_option linter.all false
def Nd.pv(x:Nd):PV:=.agg [.int .i64 x.n,.int .i64 x.len,.int .i64 x.e,.int .i64 x.num]
abbrev pj(a:List Nd):List PV:=a.map Nd.pv
theorem nd0(x:Nd):cell x.pv 0=.int .i64 x.n:=rfl
theorem nd1(x:Nd):cell x.pv 1=.int .i64 x.len:=rfl
theorem nd2(x:Nd):cell x.pv 2=.int .i64 x.e:=rfl
theorem nd3(x:Nd):cell x.pv 3=.int .i64 x.num:=rfl
theorem ndE(x:Nd):PV.agg [cell x.pv 0,cell x.pv 1,cell x.pv 2,cell x.pv 3]=x.pv:=rfl
theorem eQ{a:List Nd}{i:Nat}(h:i<a.length):(pj a)[i]?=some (ey a i).pv:=by rw[AT,Qe h];rfl
theorem ann(a b c:PV):cell (.agg [a,b,c]) 0=a:=rfl
theorem ajZ(a b c:PV):cell (.agg [a,b,c]) 1=b:=rfl
theorem ano(a b c:PV):cell (.agg [a,b,c]) 2=c:=rfl
theorem ag3(a b c:PV):asAgg 3 (.agg [a,b,c])=some ():=rfl
theorem ahy(a b:Nd):kU [.agg [cell a.pv 0,cell a.pv 1,cell a.pv 2],.agg [cell b.pv 0,cell b.pv 1,cell b.pv 2]]=some (.bool (decide (a.len<b.len∨(a.len=b.len∧a.e<b.e)))):=by
 simp only[kU,zI,ag3,ann,ajZ,ano,nd0,nd1,nd2,BY,U,asInt];by_cases h1:a.len<b.len
 ·simp[h1]
 ·by_cases h2:a.len=b.len
  ·simp[h2]
  grind
theorem Az(a:List Nd)(pu:Nat)(i k:Nat)(hi:i<a.length)(hk:k<a.length):bd [.rp [.fn 262 [],.rs 4 (pj a),.int .i64 pu],.int .i64 i,.int .i64 k]=some (.bool (Ny (ey a i) (ey a k))):=by
 have e0:ao 4 (PV.rs 4 (pj a))=some (pj a):=by rfl
 simp only[bd,eF,ajZ,ano,e0,U,asInt,BY,ag,eQ hi,eQ hk,ahy,asBool,nd3];grind [ey,Ny]
theorem half(i:Nat)(h:0<i)(hi:i<4611686018427387904):IntKind.i64.wrap ((IntKind.i64.wrap ((i:Int)-1)).tdiv 2)=(((i-1)/2:Nat):Int):=by
 have e1:IntKind.i64.wrap ((i:Int)-1)=((i-1:Nat):Int):=by grind [aZ]
 have e2:((i-1:Nat):Int).tdiv 2=(((i-1)/2:Nat):Int):=rfl;grind [aZ]
theorem Kk{i:Nat}{es:List PV}(h:i<es.length):al (i:Int) es.length:=⟨by omega,by omega⟩
theorem Qh(a:List Nd)(i k:Nat):((pj a).set i (ey a k).pv).set k (ey a i).pv=pj (swp a i k):=by simp[swp,List.map_set]
theorem Xr(Fs:TY2→Option PV)(t1:PV)(es:List PV)(ln ix:Int)(pu:Nat)(out:List PV)(x0 x1 x2:PV):∀(f N:Nat)(a:List Nd)(i:Nat),i<f→f≤N→i<a.length→a.length<4611686018427387904→cE (oS Fs) N ((i:Int),t1,es,ln,ix,(pu:Int),out,x0,x1,x2,pj a,())=Fs (t1,es,ln,IntKind.i64.wrap (ix+1),out,(pu:Int),x0,x1,x2,pj (up f a i),())
 |0,_,_,_,h,_,_,_=>by omega
 |f+1,0,_,_,_,h,_,_=>by omega
 |f+1,N+1,a,i,hf,hN,hi,ha=>by
  simp only[cE];unfold oS up;by_cases h0:0<i
  ·have hp:(i-1)/2<a.length:=by omega
   have hg:decide ((i:Int)>0)=true:=by simp;omega
   simp only[hg,cond_true,half i h0 (by omega),Az a pu i ((i-1)/2) hi hp,U,asBool];by_cases hb:Ny (ey a i) (ey a ((i-1)/2))=true
   ·have hl1:i<(pj a).length:=by simpa using hi
    have hl2:(i-1)/2<(pj a).length:=by omega
    have hl3:(i-1)/2<((pj a).set i (ey a ((i-1)/2)).pv).length:=by simpa using hp
    have OQ:((pj a).set i (ey a ((i-1)/2)).pv)[(i-1)/2]?=some (ey a ((i-1)/2)).pv:=by rw[asN];rw[IT (by omega),eQ hp]
    simp only[hb,BY,IN (Kk hl1),IN (Kk hl2),IN (Kk hl3),asc,eQ hi,eQ hp,U,ndE,OQ,Qh,h0,auU];exact Xr Fs t1 es ln ix pu out x0 x1 x2 f N (swp a i ((i-1)/2)) ((i-1)/2) (by omega) (by omega) (by rw[lQ];omega) (by rw[lQ];omega)
   simp_all
  grind
def yJ(v:Nat):Lab→PV
 |none=>.agg [.int .i64 v,.int .i64 (-1),.int .i64 (-1)]
 |some (L,e)=>.agg [.int .i64 v,.int .i64 (L:Int),.int .i64 (e:Int)]
def eE(n:Nat)(o:sm):List PV:=(List.range n).map fun v=>yJ v (o v)
def Ed.pv(y:Ed):PV:=.agg [.int .i64 y.f,.int .i64 y.t,.int .i64 y.c]
theorem AA(n:Nat)(o:sm):(eE n o).length=n:=by simp[eE]
theorem AB{n v:Nat}(o:sm)(h:v<n):(eE n o)[v]?=some (yJ v (o v)):=by simp[eE,h]
theorem aa8{n v:Nat}(o:sm)(l:Nat×Nat)(h:v<n):(eE n o).set v (yJ v (some l))=eE n (EV o v (some l)):=by
 apply asw;intro i;rw[asN];by_cases e:v=i
 ·subst e;rw[IN rfl,IN (by rw[AA];omega),AB _ h];simp[EV]
 ·rw[IT e];by_cases hi:i<n
  ·simp_all[AB,EV,Ne.symm]
  simp_all[atA,AA]
theorem anp(v:Nat)(l:Lab):∃z:Int,asInt .i64 (cell (yJ v l) 2)=some z∧(decide (z<0)=l.isNone)∧decide (z≥0)=l.isSome:=by
 cases l with
 |none=>exact⟨-1,rfl,rfl,rfl⟩
 |some p=>obtain⟨L,e⟩:=p;exact⟨e,rfl,by simp,by simp⟩
theorem ed1(y:Ed):cell y.pv 1=.int .i64 y.t:=rfl
theorem ed2(y:Ed):cell y.pv 2=.int .i64 y.c:=rfl
theorem M8(n:Int):asInt .i64 (.int .i64 n)=some n:=by rfl
theorem OR(dQ:PV×List PV×Int×List PV×Unit→Option PV)(t1:PV)(n:Nat)(o:sm)(x:Nd)(es:List Ed)(ht:∀z∈es,z.t<n)(hn:n<4294967296)(hx:x.len<4611686018427387904)(hxe:x.e<4611686018427387904)(hc:∀z∈es,z.c<4611686018427387904)(QC:es.length<4611686018427387904):∀(m N k pu:Nat)(H:List Nd),m+k=es.length→m<N→pu+m<4294967296→H.length+m<4294967296→cE (df ba dQ) N (t1,es.map Ed.pv,((es.length:Nat):Int),(k:Int),eE n o,(pu:Int),.int .i64 x.n,.int .i64 x.len,.int .i64 x.e,pj H,())=dQ (t1,eE n o,((rL o x (es.drop k) pu H).1:Int),pj (rL o x (es.drop k) pu H).2,())
 |_,0,_,_,_,_,h,_,_=>by omega
 |0,N+1,k,pu,H,hk,hN,hpu,hH=>by
  simp only[cE];unfold df;dsimp only;have hg:decide ((k:Int)<((es.length:Nat):Int))=false:=by simp;omega
  rw[hg,List.drop_eq_nil_of_le (by omega)];rfl
 |m+1,N+1,k,pu,H,hk,hN,hpu,hH=>by
  have ih:=OR dQ t1 n o x es ht hn hx hxe hc QC m N (k+1);simp only[cE];generalize cE (df ba dQ) N=rec at ih⊢;unfold df;dsimp only;have JV:k<es.length:=by omega
  have hg:decide ((k:Int)<((es.length:Nat):Int))=true:=by simp;omega
  obtain⟨z,hz⟩:∃z,es[k]?=some z:=⟨_,cN JV⟩;have hzm:z∈es:=asb hz;have hzt:=ht z hzm;have Kb:(es.map Ed.pv)[k]?=some z.pv:=by simp_all
  have anq:es.drop k=z::es.drop (k+1):=by grind [List.drop_eq_getElem_cons,List.getElem?_eq_getElem,Option.some.inj]
  obtain⟨w,w1,w2,w3⟩:=anp z.t (o z.t);have kM:al (z.t:Int) (eE n o).length:=Kk (by rw[AA];omega);rw[anq,rL];simp only[hg,BY,ag,Kb,U,ed1,ed2,M8,IN kM,asc,AB o hzt,w1,w2];by_cases Ib:(o z.t).isNone=true
  ·have e1:IntKind.i64.wrap ((x.len:Int)+(z.c:Int))=((x.len+z.c:Nat):Int):=by grind [aZ]
   have e2:pj H++[PV.agg [.int .i64 z.t,.int .i64 ((x.len+z.c:Nat):Int),.int .i64 ((x.e+1:Nat):Int),.int .i64 pu]]=pj (H++[⟨z.t,x.len+z.c,x.e+1,pu⟩]):=by simp[pj,Nd.pv]
   have e3:(pj (H++[⟨z.t,x.len+z.c,x.e+1,pu⟩])).length=H.length+1:=by simp
   have e4:IntKind.i64.wrap (((H.length+1:Nat):Int)-1)=(H.length:Int):=by grind [aZ]
   have ee:(H.length+1)*32≤ah∧0<32:=by unfold ah;omega
   simp only[Ib,BY,e1,ab (show x.e<9223372036854775807 by omega),e2,e3,e4,IN ee,ab (show pu<9223372036854775807 by omega),pL];refine(Xr rec t1 (es.map Ed.pv) ((es.length:Nat):Int) (k:Int) (pu+1) (eE n o) _ _ _ (H.length+1) rounds (H++[⟨z.t,x.len+z.c,x.e+1,pu⟩]) H.length (by omega) (by unfold rounds;omega) (by simp) (by simp;omega)).trans ?_;rw[ab (by omega)];rw[show up (H.length+1) (H++[⟨z.t,x.len+z.c,x.e+1,pu⟩]) H.length=push H ⟨z.t,x.len+z.c,x.e+1,pu⟩from rfl];refine ih (pu+1) _ (by omega) (by omega) (by omega) ?_;have:(push H ⟨z.t,x.len+z.c,x.e+1,pu⟩).length=H.length+1:=by
    unfold push;have key:∀(f:Nat)(a:List Nd)(i:Nat),(up f a i).length=a.length:=by
     intro f;induction f with
     |zero=>intro a i;rfl
     |succ f ih=>
      intro a i;unfold up;split
      ·rw[ih,lQ]
      rfl
    rw[key];simp
   omega
  ·simp only[Ib,cQ,IS,ab (show k<9223372036854775807 by omega)];grind
structure Gr(E:List Ed)(n:Nat)(ks vs:List PV):Prop where
 small:n<4294967296
 len:E.length<1073741824
 node:∀y∈E,y.f<n∧y.t<n∧y.c≤1073741824
 look:∀v:Nat,v<n→ao 3 (cB (.int .i64 v) (.rs 0 []) (ks.zip vs))=some ((E.filter fun y=>y.f==v).map Ed.pv)
section
variable {E:List Ed} {n:Nat} {ks vs:List PV}
def labelled(o:sm)(x:Nd):sm:=EV o x.n (some (x.len,x.e))
def KR(dQ:PV×List PV×Int×List PV×Unit→Option PV)(E:List Ed)(n:Nat)(ks vs:List PV)(o:sm)(x:Nd)(pu:Nat)(H:List Nd):Option PV:=
 if(o x.n).isSome=true then dQ (.rm 3 ks vs,eE n o,(pu:Int),pj H,())
 else dQ (.rm 3 ks vs,eE n (labelled o x),((rL (labelled o x) x (E.filter fun y=>y.f==x.n) pu H).1:Int),pj (rL (labelled o x) x (E.filter fun y=>y.f==x.n) pu H).2,())
structure Sm(n:Nat)(E:List Ed)(x:Nd)(pu:Nat)(H:List Nd):Prop where
 node:x.n<n
 len:x.len<4611686018427387904
 e:x.e<4611686018427387904
 pu:pu≤1073741824
 H:H.length≤1073741824
theorem EI(hG:Gr E n ks vs)(dQ:PV×List PV×Int×List PV×Unit→Option PV)(o:sm)(x:Nd)(pu:Nat)(H:List Nd)(hS:Sm n E x pu H)(A:Int→PV→Int→Option PV):((asInt .i64 (.int .i64 x.n)).bind fun n23=>if al n23 (eE n o).length then(eE n o)[n23.toNat]?.bind fun e24=>(asInt .i64 (cell e24 2)).bind fun n25=>if decide (n25≥0)=true then dQ (.rm 3 ks vs,eE n o,(pu:Int),pj H,())else(asInt .i64 (.int .i64 x.n)).bind fun n26=>if al n26 (eE n o).length then(eE n o)[n26.toNat]?.bind fun e27=>(asInt .i64 (.int .i64 x.n)).bind fun n28=>cY 3 (.rm 3 ks vs) (A n26 e27 n28) fun aqA aqB=>(ao 3 (cB (.int .i64 n28) (.rs 0 []) (aqA.zip aqB))).bind fun anr=>ba.run (df ba dQ) (.rm 3 ks vs,anr,(anr.length:Int),0,(eE n o).set n26.toNat (.agg [.int .i64 x.n,.int .i64 x.len,.int .i64 x.e]),(pu:Int),.int .i64 x.n,.int .i64 x.len,.int .i64 x.e,pj H,())else none else none)=KR dQ E n ks vs o x pu H:=by
 have kM:al (x.n:Int) (eE n o).length:=Kk (by rw[AA];exact hS.node)
 obtain⟨w,w1,w2,w3⟩:=anp x.n (o x.n)
 simp only[M8,U,IN kM,asc,AB o hS.node,w1,w3,cY,BY,hG.look x.n hS.node,pL]
 unfold KR
 by_cases hs:(o x.n).isSome=true
 ·simp only[hs,BY]
 ·simp only[hs,cQ,IS];have e1:(eE n o).set x.n (.agg [.int .i64 x.n,.int .i64 x.len,.int .i64 x.e])=eE n (labelled o x):=aa8 o (x.len,x.e) hS.node;rw[e1];have hl:(E.filter fun y=>y.f==x.n).length≤E.length:=atS ..;have bB:∀z∈E.filter (fun y=>y.f==x.n),z∈E:=fun z hz=>(auv.1 hz).1;have h1:=hG.len;have h2:=hS.pu;have h3:=hS.H;have:=OR dQ (.rm 3 ks vs) n (labelled o x) x (E.filter fun y=>y.f==x.n) (fun z hz=>(hG.node z (bB z hz)).2.1) hG.small hS.len hS.e (fun z hz=>by have:=(hG.node z (bB z hz)).2.2;omega) (by omega) (E.filter fun y=>y.f==x.n).length rounds 0 pu H (by omega) (by unfold rounds;omega) (by omega) (by omega);simp_all
theorem ad8{a:List Nd}{i:Nat}(h:2*i+1+1<a.length∧Ny (ey a (2*i+1+1)) (ey a (2*i+1))=true):OP a i=2*i+1+1:=IN h
theorem aa9{a:List Nd}{i:Nat}(h:¬(2*i+1+1<a.length∧Ny (ey a (2*i+1+1)) (ey a (2*i+1))=true)):OP a i=2*i+1:=IT h
theorem OS(hG:Gr E n ks vs)(dQ:PV×List PV×Int×List PV×Unit→Option PV)(o:sm)(x:Nd)(pu:Nat)(z1 z2 z3:Int):∀(f N:Nat)(a:List Nd)(i:Nat),a.length≤f+i→f<N→i<4294967296→Sm n E x pu a→cE (ez ba dQ) N ((i:Int),.rm 3 ks vs,(pu:Int),z1,z2,z3,.int .i64 x.n,.int .i64 x.len,.int .i64 x.e,eE n o,pj a,())=KR dQ E n ks vs o x pu (down f a i)
 |_,0,_,_,_,h,_,_=>by omega
 |0,N+1,a,i,hf,hN,hi,hS=>by
  simp only[cE];generalize cE (ez ba dQ) N=rec;unfold ez down;dsimp only;have e1:IntKind.i64.wrap (IntKind.i64.wrap (2*(i:Int))+1)=((2*i+1:Nat):Int):=by grind [aZ]
  have hg:decide (((2*i+1:Nat):Int)≥((pj a).length:Int))=true:=by simp;omega
  rw[e1,IN hg];exact EI hG dQ o x pu a hS _
 |f+1,N+1,a,i,hf,hN,hi,hS=>by
  have ih:=OS hG dQ o x pu z1 z2 z3 f N;simp only[cE];generalize cE (ez ba dQ) N=rec at ih⊢;have e1:IntKind.i64.wrap (IntKind.i64.wrap (2*(i:Int))+1)=((2*i+1:Nat):Int):=by grind [aZ]
  have e2:IntKind.i64.wrap (((2*i+1:Nat):Int)+1)=((2*i+1+1:Nat):Int):=ab (by omega);unfold ez down;dsimp only;rw[e1,e2];by_cases hl:a.length≤2*i+1
  ·have hg:decide (((2*i+1:Nat):Int)≥((pj a).length:Int))=true:=by simp;omega
   rw[IN hg,IN hl];exact EI hG dQ o x pu a hS _
  ·have hg:¬decide (((2*i+1:Nat):Int)≥((pj a).length:Int))=true:=by simp;omega
   rw[IT hg,IT hl];have hlen:=hS.H;have uI:i<a.length:=by omega
   have hi1:i<(pj a).length:=by simpa using uI
   obtain⟨k1,k2,_⟩:=ad4 hl;have ZZ:OP a i<(pj a).length:=by simpa using k1
   have hk3:OP a i<((pj a).set i (ey a (OP a i)).pv).length:=by simpa using k1
   have OQ:((pj a).set i (ey a (OP a i)).pv)[OP a i]?=some (ey a (OP a i)).pv:=by rw[asN,IT (by omega),eQ k1]
   have fin:=ih (swp a i (OP a i)) (OP a i) (by rw[lQ];omega) (by omega) (by omega) ⟨hS.node,hS.len,hS.e,hS.pu,by rw[lQ];omega⟩;by_cases hc:2*i+1+1<a.length∧Ny (ey a (2*i+1+1)) (ey a (2*i+1))=true
   ·have hk:=ad8 hc;have hd:decide (((2*i+1+1:Nat):Int)<((pj a).length:Int))=true:=by simp;omega
    rw[hd];rw[hk]at ZZ hk3 OQ fin k1⊢;simp only[cond_true,Az a pu (2*i+1+1) (2*i+1) (by omega) (by omega),hc.2,U,asBool,BY,Az a pu (2*i+1+1) i k1 uI];by_cases hb:Ny (ey a (2*i+1+1)) (ey a i)=true
    ·rw[IN hb]at*;simp only[hb,aiI,cQ,IS,IN (Kk hi1),IN (Kk ZZ),IN (Kk hk3),asc,eQ uI,eQ k1,U,ndE,OQ,Qh];omega
    ·rw[IT hb];have lf:(!Ny (ey a (2*i+1+1)) (ey a i))=true:=by simpa using hb
     rw[IN lf];exact EI hG dQ o x pu a hS _
   ·have hk:=aa9 hc;have hd:(bif decide (((2*i+1+1:Nat):Int)<((pj a).length:Int))then(bd [.rp [.fn 262 [],.rs 4 (pj a),.int .i64 (pu:Int)],.int .i64 ((2*i+1+1:Nat):Int),.int .i64 ((2*i+1:Nat):Int)]).bind fun r53=>(asBool r53).bind fun b54=>some b54 else some false)=some false:=by
     by_cases h2:2*i+1+1<a.length
     ·have hd:decide (((2*i+1+1:Nat):Int)<((pj a).length:Int))=true:=by simp;omega
      have hb:Ny (ey a (2*i+1+1)) (ey a (2*i+1))=false:=by simp_all
      rw[hd,cond_true,Az a pu (2*i+1+1) (2*i+1) h2 (by omega),U,hb];rfl
     grind
    rw[hd];rw[hk]at ZZ hk3 OQ fin k1⊢;simp only[U,asBool,cQ,IS,Az a pu (2*i+1) i k1 uI];by_cases hb:Ny (ey a (2*i+1)) (ey a i)=true
    ·rw[IN hb]at*;simp only[hb,aiI,cQ,IS,IN (Kk hi1),IN (Kk ZZ),IN (Kk hk3),asc,eQ uI,eQ k1,U,ndE,OQ,Qh];omega
    ·rw[IT hb];have lf:(!Ny (ey a (2*i+1)) (ey a i))=true:=by simpa using hb
     rw[IN lf];exact EI hG dQ o x pu a hS _
end
section
variable {E:List Ed} {n:Nat} {ks vs:List PV}
theorem aba(hG:Gr E n ks vs)(dQ:PV×List PV×Int×List PV×Unit→Option PV)(o:sm)(pu:Nat)(H:List Nd)(hS:∀x∈H,Sm n E x pu H):fW ba (.rm 3 ks vs,eE n o,(pu:Int),pj H,()) dQ=if H.length=0 then some (.rs 3 (eE n o))else KR dQ E n ks vs o (ey H 0) pu (rest H):=by
 unfold fW;dsimp only;by_cases h0:H.length=0
 ·simp_all
 ·have hg:¬(((pj H).length:Int)==0)=true:=by simp_all
  rw[IT hg,IT h0];have hx:ey H 0∈H:=IK.2 ⟨0,by omega,rfl⟩;have Z6:=hS _ hx;have hH:=Z6.H;have hl:((pj H).length:Int)=(H.length:Int):=by simp
  have e1:IntKind.i64.wrap ((H.length:Int)-1)=((H.length-1:Nat):Int):=by grind [aZ]
  have i0:al (0:Int) (pj H).length:=Kk (i:=0) (by omega);have hl1:H.length-1<(pj H).length:=by omega
  have hl3:H.length-1<((pj H).set 0 (ey H (H.length-1)).pv).length:=by simp;omega
  have g0:(pj H)[0]?=some (ey H 0).pv:=eQ (by omega);have gl:(pj H)[H.length-1]?=some (ey H (H.length-1)).pv:=eQ (by omega);have g3:∃q,((pj H).set 0 (ey H (H.length-1)).pv)[H.length-1]?=some q:=⟨_,cN hl3⟩;obtain⟨q,g3⟩:=g3;have z0:Int.toNat 0=0:=rfl;have nA:(0:Int)≤0∧0≤((H.length-1:Nat):Int)∧((H.length-1:Nat):Int)≤(((((pj H).set 0 (ey H (H.length-1)).pv).set (H.length-1) (ey H 0).pv).length:Nat):Int):=by simp
  simp only[hl,e1,IN i0,z0,g0,U,IN (Kk hl1),asc,gl,ndE,IN (Kk hl3),g3,and_true,IN nA,au3];simp only[nd0,nd1,nd2,Qh,←at4,pL];rw[IN (by simp)];have:=OS hG dQ o (ey H 0) pu 0 0 0 (H.length+1) rounds (Vy H) 0 (by simp[Vy];omega) (by unfold rounds;omega) (by omega) ⟨Z6.node,Z6.len,Z6.e,Z6.pu,by simp[Vy];omega⟩;exact this
theorem DI.small{s B:Nat}{o:sm}{pu:Nat}{H:List Nd}(h:DI E n s B o pu H)(hG:Gr E n ks vs)(hB:B≤1073741824)(hn:n≤64):∀x∈H,Sm n E x pu H:=fun x hx=>by have h1:=h.ad5 x hx;have h2:=Xq n o;have h3:B*Nz n o≤1073741824*64:=aue hB (by omega);have h4:=h.cnt;have h5:=h.ajY;have h6:=hG.len;exact⟨h.node x hx,by omega,by omega,by omega,by omega⟩
theorem abb(hG:Gr E n ks vs){s B:Nat}(hs:s<n)(hB:B≤1073741824)(hEB:∀y∈E,y.c≤B)(hn:n≤64):∃o pu,DI E n s B o pu []∧ba.run (fW ba) (.rm 3 ks vs,eE n (fun _=>none),1,[PV.agg [.int .i64 s,.int .i64 0,.int .i64 0,.int .i64 0]],())=some (.rs 3 (eE n o)):=by
 have hE:∀y∈E,y.f<n∧y.t<n∧y.c≤B:=fun y hy=>⟨(hG.node y hy).1,(hG.node y hy).2.1,hEB y hy⟩;have hlen:=hG.len;obtain⟨a,r,hI,⟨h0,hr⟩,y7⟩:=aa7 (body:=fW ba) (A:=sm×Nat×List Nd) (fun a=>(PV.rm 3 ks vs,eE n a.1,(a.2.1:Int),pj a.2.2,())) (fun a=>DI E n s B a.1 a.2.1 a.2.2) (fun a=>a.2.2.length+DG E a.1) (fun a r=>a.2.2=[]∧r=some (.rs 3 (eE n a.1))) (fun a hI dQ=>by
  obtain⟨o,pu,H⟩:=a;have hI:DI E n s B o pu H:=hI;dsimp only;rw[aba hG dQ o pu H (hI.small hG hB hn)];by_cases hH:H.length=0
  ·simp_all
  ·left;rw[IT hH];have cU:0<H.length:=by omega
   unfold KR;by_cases rU:(o (ey H 0).n).isSome=true
   ·rw[IN rU];refine⟨(o,pu,rest H),hI.skip cU rU,?_,rfl⟩;have:=(Qf hI.hp cU).2.1;grind
   ·rw[IT rU];have Ib:o (ey H 0).n=none:=by simpa using rU
    obtain⟨s1,s2⟩:=hI.settle hE cU Ib;exact⟨(_,_,_),s1,s2,rfl⟩) rounds ((fun _=>none),1,[⟨s,0,0,0⟩]) (DI.start hs) (by
  grind [DG,List.countP_le_length,List.length_cons,List.length_nil,rounds])
 obtain⟨o,pu,H⟩:=a;dsimp only at h0 hr hI;subst h0;refine⟨o,pu,hI,?_⟩;rw[pL,←hr,←y7];rfl
theorem abc(hG:Gr E n ks vs){s B:Nat}(hs:s<n)(hB:B≤1073741824)(hEB:∀y∈E,y.c≤B)(hn:n≤64):∃o pu,DI E n s B o pu []∧iy [.int .i64 n,.rm 3 ks vs,.int .i64 s]=some (.rs 3 (eE n o)):=by
 obtain⟨o,pu,hI,h⟩:=abb hG hs hB hEB hn;refine⟨o,pu,hI,?_⟩;have ee:(0:Int)≤(n:Int)∧(n:Int)≤(n:Int)∧n*24≤ah∧0<24∧0<3:=by grind [ah]
 simp only[iy,uj,M8,U,cY,BY,IN ee,asc,as1];have fill:∀k,k≤n→((List.range n).map fun v=>if v<k then yJ v none else PV.agg [.int .i64 0,.int .i64 0,.int .i64 0]).length=n:=fun k _=>by simp
 refine bf (fun k=>(PV.rm 3 ks vs,(s:Int),(n:Int),(k:Int),(List.range n).map (fun v=>if v<k then yJ v none else PV.agg [.int .i64 0,.int .i64 0,.int .i64 0]),())) n (fun k hk rec=>?_) (fun rec=>?_) (by unfold rounds;omega) ?_
 ·unfold jj;dsimp only;have hg:decide ((k:Int)<(n:Int))=true:=by simp;omega
  have kM:al (k:Int) ((List.range n).map fun v=>if v<k then yJ v none else PV.agg [.int .i64 0,.int .i64 0,.int .i64 0]).length:=Kk (by simp_all);have eQ:((List.range n).map fun v=>if v<k then yJ v none else PV.agg [.int .i64 0,.int .i64 0,.int .i64 0])[k]?=some (PV.agg [.int .i64 0,.int .i64 0,.int .i64 0]):=by simp[hk]
  have rU:((List.range n).map fun v=>if v<k then yJ v none else PV.agg [.int .i64 0,.int .i64 0,.int .i64 0]).set k (.agg [.int .i64 k,.int .i64 (-1),.int .i64 (-1)])=(List.range n).map fun v=>if v<k+1 then yJ v none else PV.agg [.int .i64 0,.int .i64 0,.int .i64 0]:=by
   apply asw;intro i;rw[asN];by_cases e:k=i
   ·subst e;simp[hk,yJ]
   ·rw[IT e];by_cases hi:i<n
    ·simp only[AT,as2 hi,No];grind
    simp_all
  rw[IN hg,IN kM,asc,eQ,U,rU,ab (by omega)]
 ·unfold jj;dsimp only;have hg:¬decide ((n:Int)<(n:Int))=true:=by simp
  have e0:IntKind.i64.wrap ((1:Nat)-1:Int)=0:=by rfl
  have e1:IntKind.i64.wrap (0+1)=1:=by rfl
  have Ur:((List.range n).map fun v=>if v<n then yJ v none else PV.agg [.int .i64 0,.int .i64 0,.int .i64 0])=eE n (fun _=>none):=by simp_all[eE,asD,IN]
  rw[IT hg,Ur,e1];refine Eq.trans ?_ h;rfl
 ·congr 1;have:((List.range n).map fun v=>if v<0 then yJ v none else PV.agg [.int .i64 0,.int .i64 0,.int .i64 0])=List.replicate n (PV.agg [.int .i64 0,.int .i64 0,.int .i64 0]):=by apply asw;grind
  rw[this];rfl
end
theorem ahz{S R:Type}{body:S→(S→Option R)→Option R}{s:S}{r:Option R}(h:∀rec,body s rec=r):ba.run body s=r:=bf (fun _=>s) 0 (fun k hk=>by omega) h (by decide) rfl
def yK(n k:Nat)(F:Nat→PV)(z:PV):List PV:=(List.range n).map fun v=>if v<k then F v else z
theorem SK(n k:Nat)(F:Nat→PV)(z:PV):(yK n k F z).length=n:=by simp[yK]
theorem SL{n k:Nat}{F:Nat→PV}{z:PV}(hk:k<n):(yK n k F z)[k]?=some z:=by simp[yK,hk]
theorem SM{n k:Nat}{F:Nat→PV}{z:PV}(hk:k<n):(yK n k F z).set k (F k)=yK n (k+1) F z:=by
 apply asw;intro i;rw[asN];by_cases e:k=i
 ·subst e;simp[yK,hk]
 ·rw[IT e];unfold yK;grind
theorem OT(n:Nat)(F:Nat→PV)(z:PV):yK n 0 F z=List.replicate n z:=by unfold yK;apply asw;grind
theorem SN(n:Nat)(F:Nat→PV)(z:PV):yK n n F z=(List.range n).map F:=by simp_all[yK,asD,IN]
def Qi:Lab→Int
 |none=> -1
 |some (L,_)=>L
theorem aqC(v:Nat)(l:Lab):asInt .i64 (cell (yJ v l) 1)=some (Qi l):=by
 cases l with
 |none=>rfl
 |some p=>rfl
theorem Vz(n:Nat)(hn:n≤64)(o:sm):kD [.rs 3 (eE n o)]=some (.rs 1 ((List.range n).map fun v=>.int .i64 (Qi (o v)))):=by
 have e0:ao 3 (.rs 3 (eE n o))=some (eE n o):=by rfl
 have ee:(0:Int)≤((n:Nat):Int)∧((n:Nat):Int)≤((n:Nat):Int)∧n*8≤ah∧0<8∧0<1:=by grind [ah]
 simp only[kD,sn,e0,U,AA,asc,IN ee];refine bf (fun k=>(eE n o,(n:Int),(k:Int),yK n k (fun v=>.int .i64 (Qi (o v))) (.int .i64 0),())) n (fun k hk rec=>?_) (fun rec=>?_) (by unfold rounds;omega) ?_
 ·unfold nH;dsimp only;have hg:decide ((k:Int)<(n:Int))=true:=by simp;omega
  rw[IN hg,ag,AB o hk,U,aqC,U,IN (Kk (by rw[SK];omega)),asc,SL hk,U,ab (by omega)];simp_all[SM,Qi]
 ·simp[nH,IT,SN]
 ·rw[OT];rfl
theorem L8(i n:Nat)(h:i<n):dU [.int .i64 i,.rp [.int .i64 n]]=some (.bool false):=by
 have h1:decide ((i:Int)<0)=false:=by simp
 have h2:decide ((i:Int)≥(n:Int))=false:=by simp;omega
 simp only[dU,rY,M8,U,h1,cond_false,h2]
theorem ed0(y:Ed):cell y.pv 0=.int .i64 y.f:=rfl
theorem ad9(E:List Ed)(n:Nat)(hn:n≤64)(hE:E.length≤4096)(h:∀y∈E,y.f<n∧y.t<n∧y.c≤1073741824):nd [.int .i64 n,.rs 3 (E.map Ed.pv),.rs 0 []]=some (.int .i64 0):=by
 have e0:ao 3 (.rs 3 (E.map Ed.pv))=some (E.map Ed.pv):=by rfl
 have e1:ao 1 (.rs 0 [])=some []:=by rfl
 have h1:decide ((n:Int)<0)=false:=by simp
 have h2:decide ((n:Int)>64)=false:=by simp;omega
 have h3:¬decide (((E.map Ed.pv).length:Int)>4096)=true:=by simp;omega
 simp only[nd,xh,M8,e0,e1,U,h1,h2,cond_false,cQ,IS,IT h3];refine bf (fun k=>(([]:List PV),E.map Ed.pv,((E.map Ed.pv).length:Int),(k:Int),(n:Int),())) E.length (fun k hk rec=>?_) (fun rec=>?_) (by unfold rounds;omega) rfl
 ·unfold qS;dsimp only;have hg:decide ((k:Int)<((E.map Ed.pv).length:Int))=true:=by simp;omega
  obtain⟨z,hz⟩:∃z,E[k]?=some z:=⟨_,cN hk⟩;have Kb:(E.map Ed.pv)[k]?=some z.pv:=by simp_all
  obtain⟨a1,a2,a3⟩:=h z (asb hz);have h4:decide ((z.c:Int)<0)=false:=by simp
  have h5:decide ((z.c:Int)>1073741824)=false:=by simp;omega
  simp only[hg,BY,ag,Kb,U,ed0,ed1,ed2,M8,L8 _ _ a1,L8 _ _ a2,asBool,cond_false,cQ,IS,h4,h5,ab (show k<9223372036854775807 by omega)]
 simp[qS,IT,ahz,yL]
abbrev Qj:=List (Nat×List Ed)
def SO(z:Ed):Qj→Qj
 |[]=>[(z.f,[z])]
 |(a,l)::r=>if z.f=a then(a,l++[z])::r else(a,l)::SO z r
def xl(v:Nat):Qj→List Ed
 |[]=>[]
 |(a,l)::r=>if v=a then l else xl v r
def SP(m:Qj):List (PV×PV):=m.map fun x=>(.int .i64 x.1,.uS 3 (x.2.map Ed.pv))
theorem aea(a b:Nat):cz (PV.int .i64 a).cells (PV.int .i64 b).cells=decide (a=b):=by
 have:((a:Int)==(b:Int))=decide (a=b):=by grind
 simp_all[PV.cells,cz,peq,as7]
theorem ans(v:Nat):∀m:Qj,QS 3 (.int .i64 v) (SP m)=some ((xl v m).map Ed.pv)
 |[]=>rfl
 |(a,l)::r=>by
  have ih:=ans v r;unfold SP at ih⊢;simp only[asn,QS,xl,aea];by_cases h:v=a
  ·simp[h,fT]
  simp_all
theorem Xs(z:Ed):∀m:Qj,dI (.int .i64 z.f) (.uS 3 ((xl z.f m).map Ed.pv++[z.pv])) (zX (.int .i64 z.f) (SP m))=SP (SO z m)
 |[]=>by rfl
 |(a,l)::r=>by
  have ih:=Xs z r;unfold SP at ih⊢;simp only[asn,zX,SO,xl,aea];by_cases h:z.f=a
  ·subst h;simp[dI,aea]
  simp_all[ass,cQ,IS,dI,aea,asn]
theorem OU(v:Nat)(z:Ed):∀m:Qj,xl v (SO z m)=xl v m++(if z.f=v then[z]else[])
 |[]=>by simp only[SO,xl];grind
 |(a,l)::r=>by
  simp only[SO];by_cases h:z.f=a
  ·subst h;simp only[BY,xl];grind
  ·rw[IT h];simp only[xl];by_cases hv:v=a
   ·simp_all
   simp_all[IT,OU]
def Gi(E:List Ed):Qj:=E.foldl (fun m z=>SO z m) []
theorem OV(E:List Ed)(z:Ed):Gi (E++[z])=SO z (Gi E):=by simp[Gi]
theorem OW(v:Nat)(E:List Ed):xl v (Gi E)=E.filter fun y=>y.f==v:=by
 rw[←auq E];induction E.reverse with
 |nil=>rfl
 |cons z l ih=>grind [List.reverse_cons,OV,OU]
theorem ant(v:Nat):∀m:Qj,ao 3 (cB (.int .i64 v) (.rs 0 []) (((SP m).map fun x=>x.1).zip ((SP m).map fun x=>x.2.rP)))=some ((xl v m).map Ed.pv)
 |[]=>by rfl
 |(a,l)::r=>by
  have ih:=ant v r;unfold SP at ih⊢;simp only[asn,auI,cB,aea,xl];by_cases h:v=a
  ·simp[h,PV.rP,ao]
  simp_all
theorem Qk(E:List Ed)(hE:E.length≤4096):iA [.rs 3 (E.map Ed.pv),.bool false]=some (.rm 3 ((SP (Gi E)).map fun x=>x.1) ((SP (Gi E)).map fun x=>x.2.rP)):=by
 have e0:ao 3 (.rs 3 (E.map Ed.pv))=some (E.map Ed.pv):=by rfl
 simp only[iA,oT,e0,U,asBool];refine bf (fun k=>(false,E.map Ed.pv,((E.map Ed.pv).length:Int),(k:Int),SP (Gi (E.take k)),())) E.length (fun k hk rec=>?_) (fun rec=>?_) (by unfold rounds;omega) (by rfl)
 ·unfold lE;dsimp only;have hg:decide ((k:Int)<((E.map Ed.pv).length:Int))=true:=by simp;omega
  obtain⟨z,hz⟩:∃z,E[k]?=some z:=⟨_,cN hk⟩;have Kb:(E.map Ed.pv)[k]?=some z.pv:=by simp_all
  have htk:E.take (k+1)=E.take k++[z]:=by rw[auO,hz];rfl
  have hce:PV.agg [cell z.pv 0,cell z.pv 1,cell z.pv 2]=z.pv:=rfl;have hlen:((xl z.f (Gi (E.take k))).map Ed.pv++[z.pv]).length*24≤ah∧0<24:=by
   have:(xl z.f (Gi (E.take k))).length≤E.length:=by grind [OW,Nat.le_trans,List.length_filter_le,List.length_take]
   grind [List.length_append,List.length_map,List.length_cons,List.length_nil,ah]
  rw[IN hg,ag,Kb,U,IT (by simp)];have aqD:PV.agg [.int .i64 z.f,cell z.pv 1,cell z.pv 2]=z.pv:=rfl;simp only[ed0,M8,U,ans,aqD,IN hlen];grind [Xs,OV,ab]
 simp[lE,IT,asJ]
theorem aeb(E:List Ed)(n:Nat)(hn:n≤64)(hE:E.length≤4096)(h:∀y∈E,y.f<n∧y.t<n∧y.c≤1073741824):Gr E n ((SP (Gi E)).map fun x=>x.1) ((SP (Gi E)).map fun x=>x.2.rP):=⟨by omega,by omega,h,fun v _=>by rw[ant,OW]⟩
end Go.Ab.Nw
