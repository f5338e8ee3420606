import Derived.Test.YtmbihgjlollbeaaGreatTtData
import Derived.Test.YtmbihgjlollbeaaGreatAbLib
namespace Go.Ab.Tt
set_option linter.unusedVariables false
theorem ig(a b:Bool):(bif a then some b else some false)=some (a&&b):=by cases a<;>rfl
theorem cu(a b:Bool):(bif a then some true else some b)=some (a||b):=by cases a<;>rfl
theorem gE{A:Type}[DecidableEq A][BEq A][LawfulBEq A](a b:A):(a==b)=decide (a=b):=by rw[aiN];simp
theorem nR{A:Type}[DecidableEq A][BEq A][LawfulBEq A](a b:A):(a !=b)= !decide (a=b):=by rw[aiN];simp
section
variable {K:Type} [DecidableEq K]
def yL(a:K)(v:PV):List (K×PV)→List (K×PV)
 |[]=>[(a,v)]
 |(b,u)::r=>if a=b then(a,v)::r else(b,u)::yL a v r
def wq(a:K)(z:PV):List (K×PV)→PV
 |[]=>z
 |(b,u)::r=>if a=b then u else wq a z r
def uP(key:K→PV)(m:List (K×PV)):List (PV×PV):=m.map fun x=>(key x.1,x.2)
theorem Ba(a b:K)(v z:PV):∀m,wq a z (yL b v m)=if a=b then v else wq a z m
 |[]=>rfl
 |(c,u)::r=>by
  simp only[yL];by_cases h:b=c
  ·subst h;simp only[IS,wq];by_cases h2:a=b<;>simp[h2]
  ·simp only[By h,wq,Ba a b v z r];by_cases h2:a=c
   ·subst h2;simp[Ne.symm h]
   ·simp[h2]
variable {key:K→PV} (hk:∀a b,dr (key a).cells (key b).cells=decide (a=b))
include hk
theorem Iy(a:K)(v:PV):∀m,dE (key a) v (uP key m)=uP key (yL a v m)
 |[]=>rfl
 |(b,u)::r=>by
  simp only[uP,aiL,dE,hk,yL];by_cases h:a=b
  ·simp[h]
  ·have:=Iy a v r;simp only[uP]at this;simp[h,this]
theorem EG(a:K)(z:PV):∀m,cH (key a) z (uP key m)=wq a z m
 |[]=>rfl
 |(b,u)::r=>by
  simp only[uP,aiL,cH,hk,wq];by_cases h:a=b
  ·simp[h]
  ·have:=EG a z r;simp only[uP]at this;simp[h,this]
omit hk
def GX(l:List K):List (K×PV):=l.foldl (fun m a=>yL a (.bool true) m) []
def seen(key:K→PV)(l:List K):List (PV×PV):=uP key (GX l)
theorem Qk(l:List K)(a:K):GX (l++[a])=yL a (.bool true) (GX l):=by simp[GX]
theorem Ql(a:K)(l:List K):wq a (.bool false) (GX l)=.bool (decide (a∈l)):=by
 have key:∀(l:List K)(m:List (K×PV))(s:K→Bool),(∀a,wq a (.bool false) m=.bool (s a))→∀a,wq a (.bool false) (l.foldl (fun m a=>yL a (.bool true) m) m)=.bool (decide (a∈l)||s a):=by
  intro l;induction l with
  |nil=>intro m s h a;simp[h a]
  |cons b l ih=>
   intro m s h a;simp only[ak9];rw[ih (yL b (.bool true) m) (fun a=>decide (a=b)||s a) (fun a=>by
    rw[Ba];by_cases sy:a=b
    ·simp[sy]
    ·simp[sy,h a]) a]
   simp only[PV.bool.injEq,abX,Bool.decide_or];cases decide (a∈l)<;>cases decide (a=b)<;>rfl
 have:=key l [] (fun _=>false) (fun _=>rfl) a;simpa[GX]using this
include hk
theorem lB(a:K)(l:List K):cH (key a) (.bool false) (seen key l)=.bool (decide (a∈l)):=by rw[seen,EG hk,Ql]
theorem nV(a:K)(l:List K):dE (key a) (.bool true) (seen key l)=seen key (l++[a]):=by rw[seen,Iy hk,seen,Qk]
end
theorem wZ(a b:Bytes):dr (PV.str a).cells (PV.str b).cells=decide (a=b):=by simp only[PV.cells,dr,peq,akb,gE]
theorem Ae(a b:Int):dr (PV.int .i64 a).cells (PV.int .i64 b).cells=decide (a=b):=by simp only[PV.cells,dr,peq,akb,gE]
variable{R:Type}
def fK(o:Option (Option R))(fin:Option R):Option R:=match o with|some r=>r|none=>fin
theorem bK{S:Type}{body:S→(S→Option R)→Option R}(st:Nat→S)(n:Nat)(bad:Nat→Option (Option R)){fin:Option R}(h:∀k,k<n→∀rec,body (st k) rec=fK (bad k) (rec (st (k+1))))(uT:∀rec,body (st n) rec=fin)(hn:n<rounds){s0:S}(h0:st 0=s0):bl.run body s0=fK ((List.range n).findSome? bad) fin:=AL st n bad h uT hn h0
def res(i e:Int):PV:=.aP [.int .i64 i,.int .i64 e]
def bL(f:Nat→Int)(n:Nat):Int×Int:=match(List.range n).findSome? (fun k=>if f k=0 then none else some ((k:Int),f k))with|some x=>x|none=>(0,0)
def KQ(k:Nat)(e:Int):Option (Option PV):=if e=0 then none else some (some (res k e))
theorem nU(f:Nat→Int)(n:Nat):fK ((List.range n).findSome? fun k=>KQ k (f k)) (some (res 0 0))=some (res (bL f n).1 (bL f n).2):=by
 unfold bL;have:(List.range n).findSome? (fun k=>KQ k (f k))=((List.range n).findSome? (fun k=>if f k=0 then none else some ((k:Int),f k))).map fun x=>some (res x.1 x.2):=by rw[akS];congr 1;funext k;unfold KQ;by_cases h:f k=0<;>simp[h]
 rw[this];cases(List.range n).findSome? (fun k=>if f k=0 then none else some ((k:Int),f k))<;>rfl
def lA(b:UInt8):Bool:=(decide (97≤(b.toNat:Int))&&decide ((b.toNat:Int)≤122))||(decide (65≤(b.toNat:Int))&&decide ((b.toNat:Int)≤90))||(decide (48≤(b.toNat:Int))&&decide ((b.toNat:Int)≤57))||decide ((b.toNat:Int)=45)||decide ((b.toNat:Int)=95)||decide ((b.toNat:Int)=46)
def ic(s:Bytes):Bool:=decide (1≤s.length)&&decide (s.length≤32)&&s.all lA
theorem KK(s:Bytes)(k:Nat):RI s (k:Int)=s[k]?:=by simp[RI]
theorem EA{body:Bytes×Int×Unit→(Bytes×Int×Unit→Option R)→Option R}(s:Bytes)(hs:s.length≤maxLen)(ok:UInt8→Bool)(no fin:Option R)(h:∀k,(hk:k<s.length)→∀rec,body (s,(k:Int),()) rec=if ok s[k]then rec (s,((k+1:Nat):Int),())else no)(uT:∀rec,body (s,(s.length:Int),()) rec=fin):bl.run body (s,0,())=if s.all ok then fin else no:=by
 have hm:=bI;refine(AL (fun k=>(s,(k:Int),())) s.length (fun k=>(s[k]?).bind fun b=>if ok b then none else some no) (fun k hk rec=>?_) (fin:=fin) uT ?_ rfl).trans ?_
 ·rw[h k hk,cO hk,aiH];by_cases hb:ok s[k]=true<;>simp[hb]
 ·have:=bp;omega
 ·rw[MH];clear h uT hs;induction s with
  |nil=>rfl
  |cons b s ih=>
   simp only[ajC,ak3];by_cases hb:ok b=true
   ·simp only[hb,IS,aj9];exact ih
   ·simp[hb]
theorem Cd{B:Type}(p:Nat→Bool)(g:Nat→B):∀l:List Nat,l.findSome? (fun k=>if p k=true then some (g k)else none)=(l.find? p).map g
 |[]=>rfl
 |k::l=>by
  simp only[ajC,List.find?_cons];cases h:p k with
  |true=>simp
  |false=>simpa using Cd p g l
theorem ta{S R:Type}{body:S→(S→Option R)→Option R}(st:Nat→S)(i:Nat)(hit:Nat→Bool){no fin:Option R}(h:∀k,k<i→∀rec,body (st k) rec=if hit k=true then no else rec (st (k+1)))(uT:∀rec,body (st i) rec=fin)(hi:i<rounds){s0:S}(h0:st 0=s0):bl.run body s0=if(List.range i).any hit=true then no else fin:=by
 refine(bK st i (fun k=>if hit k=true then some no else none) (fun k hk rec=>?_) uT hi h0).trans ?_
 ·rw[h k hk];by_cases hh:hit k=true<;>simp[hh,fK]
 ·have:∀l:List Nat,fK (l.findSome? fun k=>if hit k=true then some no else none) fin=if l.any hit=true then no else fin:=by
   intro l;induction l with
   |nil=>rfl
   |cons k l ih=>
    simp only[ajC,aka];by_cases hh:hit k=true
    ·simp[hh,fK]
    ·simp only[hh,akm,T1];exact ih
  exact this _
theorem CS{A:Type}[DecidableEq A](ids:List A)(i:Nat)(h:i≤ids.length)(x:A):(List.range i).any (fun k=>decide (ids[k]?=some x))=decide (x∈ids.take i):=by
 rw[aiN];simp only[aj5,ajV,IL];constructor
 ·rintro⟨k,hk,hx⟩;exact ajd.2 ⟨k,by rw[ajb hk];exact hx⟩
 ·intro bQ;obtain⟨k,hk⟩:=ajd.1 bQ;have Xp:k<i:=by have:=(AT.1 hk).1;simp at this;omega
  exact⟨k,Xp,by rw[ajb Xp]at hk;exact hk⟩
theorem qD{A B:Type}(f:A→B)(l:List A)(k:Nat)(h:k<l.length):(l.map f).take (k+1)=(l.map f).take k++[f l[k]]:=by rw[ai8 (by simpa using h)];simp
def Jk(e:Int):Option (Option PV):=if e=0 then none else some (some (.int .i64 e))
theorem Pe(f:Nat→Int)(n:Nat):fK ((List.range n).findSome? fun k=>Jk (f k)) (some (.int .i64 0))=some (.int .i64 (bL f n).2):=by
 unfold bL;have:(List.range n).findSome? (fun k=>Jk (f k))=((List.range n).findSome? (fun k=>if f k=0 then none else some ((k:Int),f k))).map fun x=>some (.int .i64 x.2):=by rw[akS];congr 1;funext k;unfold Jk;by_cases h:f k=0<;>simp[h]
 rw[this];cases(List.range n).findSome? (fun k=>if f k=0 then none else some ((k:Int),f k))<;>rfl
theorem SR(f:Nat→Int)(n:Nat)(h:(bL f n).2=0):(bL f n).1=0:=by
 unfold bL at*;cases hf:(List.range n).findSome? (fun k=>if f k=0 then none else some ((k:Int),f k))with
 |none=>rfl
 |some x=>
  rw[hf]at h;obtain⟨k,_,hk⟩:=ajm hf;by_cases h0:f k=0
  ·rw[AI h0]at hk;cases hk
  ·rw[By h0]at hk;simp only[cN]at hk;subst hk;exact absurd h h0
end Go.Ab.Tt
