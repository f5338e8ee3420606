import Derived.Test.YtcmhmlnkhmefbaaGreatTtData
import Derived.Test.YtcmhmlnkhmefbaaGreatAbLib
namespace Go.Ab.Tt
set_option linter.unusedVariables false
theorem cT(a b:Bool):(bif a then some b else some false)=some (a&&b):=by cases a<;>rfl
theorem aW(a b:Bool):(bif a then some true else some b)=some (a||b):=by cases a<;>rfl
theorem ef{A:Type}[DecidableEq A][BEq A][LawfulBEq A](a b:A):(a==b)=decide (a=b):=by rw[Bool.eq_iff_iff];simp
theorem jw{A:Type}[DecidableEq A][BEq A][LawfulBEq A](a b:A):(a !=b)= !decide (a=b):=by rw[Bool.eq_iff_iff];simp
section
variable {K:Type} [DecidableEq K]
def wV(a:K)(v:PV):List (K×PV)→List (K×PV)
 |[]=>[(a,v)]
 |(b,u)::r=>if a=b then(a,v)::r else(b,u)::wV a v r
def uF(a:K)(z:PV):List (K×PV)→PV
 |[]=>z
 |(b,u)::r=>if a=b then u else uF a z r
def td(key:K→PV)(m:List (K×PV)):List (PV×PV):=m.map fun x=>(key x.1,x.2)
theorem zd(a b:K)(v z:PV):∀m,uF a z (wV b v m)=if a=b then v else uF a z m
 |[]=>rfl
 |(c,u)::r=>by
  simp only[wV];by_cases h:b=c
  ·subst h;simp only[if_true,uF];by_cases h2:a=b<;>simp[h2]
  ·simp only[if_neg h,uF,zd a b v z r];by_cases h2:a=c
   ·subst h2;simp[Ne.symm h]
   ·simp[h2]
variable {key:K→PV} (hk:∀a b,cA (key a).cells (key b).cells=decide (a=b))
include hk
theorem FM(a:K)(v:PV):∀m,eM (key a) v (td key m)=td key (wV a v m)
 |[]=>rfl
 |(b,u)::r=>by
  simp only[td,List.map_cons,eM,hk,wV];by_cases h:a=b
  ·simp[h]
  ·have:=FM a v r;simp only[td]at this;simp[h,this]
theorem CK(a:K)(z:PV):∀m,dH (key a) z (td key m)=uF a z m
 |[]=>rfl
 |(b,u)::r=>by
  simp only[td,List.map_cons,dH,hk,uF];by_cases h:a=b
  ·simp[h]
  ·have:=CK a z r;simp only[td]at this;simp[h,this]
omit hk
def E1(l:List K):List (K×PV):=l.foldl (fun m a=>wV a (.bool true) m) []
def seen(key:K→PV)(l:List K):List (PV×PV):=td key (E1 l)
theorem Nr(l:List K)(a:K):E1 (l++[a])=wV a (.bool true) (E1 l):=by simp[E1]
theorem Ns(a:K)(l:List K):uF a (.bool false) (E1 l)=.bool (decide (a∈l)):=by
 have key:∀(l:List K)(m:List (K×PV))(s:K→Bool),(∀a,uF a (.bool false) m=.bool (s a))→∀a,uF a (.bool false) (l.foldl (fun m a=>wV a (.bool true) m) m)=.bool (decide (a∈l)||s a):=by
  intro l;induction l with
  |nil=>intro m s h a;simp[h a]
  |cons b l ih=>
   intro m s h a;simp only[List.foldl_cons];rw[ih (wV b (.bool true) m) (fun a=>decide (a=b)||s a) (fun a=>by
    rw[zd];by_cases ry:a=b
    ·simp[ry]
    ·simp[ry,h a]) a]
   simp only[PV.bool.injEq,List.mem_cons,Bool.decide_or];cases decide (a∈l)<;>cases decide (a=b)<;>rfl
 have:=key l [] (fun _=>false) (fun _=>rfl) a;simpa[E1]using this
include hk
theorem kQ(a:K)(l:List K):dH (key a) (.bool false) (seen key l)=.bool (decide (a∈l)):=by rw[seen,CK hk,Ns]
theorem nd(a:K)(l:List K):eM (key a) (.bool true) (seen key l)=seen key (l++[a]):=by rw[seen,FM hk,seen,Nr]
end
theorem vB(a b:Bytes):cA (PV.str a).cells (PV.str b).cells=decide (a=b):=by simp only[PV.cells,cA,peq,Bool.and_true,ef]
theorem xR(a b:Int):cA (PV.int .i64 a).cells (PV.int .i64 b).cells=decide (a=b):=by simp only[PV.cells,cA,peq,Bool.and_true,ef]
variable{R:Type}
def c8(o:Option (Option R))(fin:Option R):Option R:=match o with|some r=>r|none=>fin
theorem aY{S:Type}{body:S→(S→Option R)→Option R}(st:Nat→S)(n:Nat)(bad:Nat→Option (Option R)){fin:Option R}(h:∀k,k<n→∀rec,body (st k) rec=c8 (bad k) (rec (st (k+1))))(nm:∀rec,body (st n) rec=fin)(hn:n<rounds){s0:S}(h0:st 0=s0):bK.run body s0=c8 ((List.range n).findSome? bad) fin:=DQ st n bad h nm hn h0
def res(i e:Int):PV:=.aZ [.int .i64 i,.int .i64 e]
def bS(f:Nat→Int)(n:Nat):Int×Int:=match(List.range n).findSome? (fun k=>if f k=0 then none else some ((k:Int),f k))with|some x=>x|none=>(0,0)
def HG(k:Nat)(e:Int):Option (Option PV):=if e=0 then none else some (some (res k e))
theorem lD(f:Nat→Int)(n:Nat):c8 ((List.range n).findSome? fun k=>HG k (f k)) (some (res 0 0))=some (res (bS f n).1 (bS f n).2):=by
 unfold bS;have:(List.range n).findSome? (fun k=>HG k (f k))=((List.range n).findSome? (fun k=>if f k=0 then none else some ((k:Int),f k))).map fun x=>some (res x.1 x.2):=by rw[List.map_findSome?];congr 1;funext k;unfold HG;by_cases h:f k=0<;>simp[h]
 rw[this];cases(List.range n).findSome? (fun k=>if f k=0 then none else some ((k:Int),f k))<;>rfl
def jm(b:UInt8):Bool:=(decide (97≤(b.toNat:Int))&&decide ((b.toNat:Int)≤122))||(decide (65≤(b.toNat:Int))&&decide ((b.toNat:Int)≤90))||(decide (48≤(b.toNat:Int))&&decide ((b.toNat:Int)≤57))||decide ((b.toNat:Int)=45)||decide ((b.toNat:Int)=95)||decide ((b.toNat:Int)=46)
def dR(s:Bytes):Bool:=decide (1≤s.length)&&decide (s.length≤32)&&s.all jm
theorem CD(s:Bytes)(k:Nat):Jv s (k:Int)=s[k]?:=by simp[Jv]
theorem CC{body:Bytes×Int×Unit→(Bytes×Int×Unit→Option R)→Option R}(s:Bytes)(hs:s.length≤maxLen)(ok:UInt8→Bool)(no fin:Option R)(h:∀k,(hk:k<s.length)→∀rec,body (s,(k:Int),()) rec=if ok s[k]then rec (s,((k+1:Nat):Int),())else no)(nm:∀rec,body (s,(s.length:Int),()) rec=fin):bK.run body (s,0,())=if s.all ok then fin else no:=by
 have hm:=aT;refine(DQ (fun k=>(s,(k:Int),())) s.length (fun k=>(s[k]?).bind fun b=>if ok b then none else some no) (fun k hk rec=>?_) (fin:=fin) nm ?_ rfl).trans ?_
 ·rw[h k hk,List.getElem?_eq_getElem hk,Option.bind_some];by_cases hb:ok s[k]=true<;>simp[hb]
 ·have:=aP;omega
 ·rw[JC];clear h nm hs;induction s with
  |nil=>rfl
  |cons b s ih=>
   simp only[List.findSome?_cons,List.all_cons];by_cases hb:ok b=true
   ·simp only[hb,if_true,Bool.true_and];exact ih
   ·simp[hb]
end Go.Ab.Tt
namespace Go.Ab.Tt
theorem qv{B:Type}(p:Nat→Bool)(g:Nat→B):∀l:List Nat,l.findSome? (fun k=>if p k=true then some (g k)else none)=(l.find? p).map g
 |[]=>rfl
 |k::l=>by
  simp only[List.findSome?_cons,List.find?_cons];cases h:p k with
  |true=>simp
  |false=>simpa using qv p g l
end Go.Ab.Tt
namespace Go.Ab.Tt
theorem px{S R:Type}{body:S→(S→Option R)→Option R}(st:Nat→S)(i:Nat)(hit:Nat→Bool){no fin:Option R}(h:∀k,k<i→∀rec,body (st k) rec=if hit k=true then no else rec (st (k+1)))(nm:∀rec,body (st i) rec=fin)(hi:i<rounds){s0:S}(h0:st 0=s0):bK.run body s0=if(List.range i).any hit=true then no else fin:=by
 refine(aY st i (fun k=>if hit k=true then some no else none) (fun k hk rec=>?_) nm hi h0).trans ?_
 ·rw[h k hk];by_cases hh:hit k=true<;>simp[hh,c8]
 ·have:∀l:List Nat,c8 (l.findSome? fun k=>if hit k=true then some no else none) fin=if l.any hit=true then no else fin:=by
   intro l;induction l with
   |nil=>rfl
   |cons k l ih=>
    simp only[List.findSome?_cons,List.any_cons];by_cases hh:hit k=true
    ·simp[hh,c8]
    ·simp only[hh,Bool.false_or,if_false];exact ih
  exact this _
theorem A8{A:Type}[DecidableEq A](ids:List A)(i:Nat)(h:i≤ids.length)(x:A):(List.range i).any (fun k=>decide (ids[k]?=some x))=decide (x∈ids.take i):=by
 rw[Bool.eq_iff_iff];simp only[List.any_eq_true,List.mem_range,decide_eq_true_eq];constructor
 ·rintro⟨k,hk,hx⟩;exact List.mem_iff_getElem?.2 ⟨k,by rw[List.getElem?_take_of_lt hk];exact hx⟩
 ·intro bO;obtain⟨k,hk⟩:=List.mem_iff_getElem?.1 bO;have Vm:k<i:=by have:=(List.getElem?_eq_some_iff.1 hk).1;simp at this;omega
  exact⟨k,Vm,by rw[List.getElem?_take_of_lt Vm]at hk;exact hk⟩
theorem pq{A B:Type}(f:A→B)(l:List A)(k:Nat)(h:k<l.length):(l.map f).take (k+1)=(l.map f).take k++[f l[k]]:=by rw[List.take_succ_eq_append_getElem (by simpa using h)];simp
end Go.Ab.Tt
namespace Go.Ab.Tt
def Gv(e:Int):Option (Option PV):=if e=0 then none else some (some (.int .i64 e))
theorem Lx(f:Nat→Int)(n:Nat):c8 ((List.range n).findSome? fun k=>Gv (f k)) (some (.int .i64 0))=some (.int .i64 (bS f n).2):=by
 unfold bS;have:(List.range n).findSome? (fun k=>Gv (f k))=((List.range n).findSome? (fun k=>if f k=0 then none else some ((k:Int),f k))).map fun x=>some (.int .i64 x.2):=by rw[List.map_findSome?];congr 1;funext k;unfold Gv;by_cases h:f k=0<;>simp[h]
 rw[this];cases(List.range n).findSome? (fun k=>if f k=0 then none else some ((k:Int),f k))<;>rfl
theorem PU(f:Nat→Int)(n:Nat)(h:(bS f n).2=0):(bS f n).1=0:=by
 unfold bS at*;cases hf:(List.range n).findSome? (fun k=>if f k=0 then none else some ((k:Int),f k))with
 |none=>rfl
 |some x=>
  rw[hf]at h;obtain⟨k,_,hk⟩:=List.exists_of_findSome?_eq_some hf;by_cases h0:f k=0
  ·rw[if_pos h0]at hk;cases hk
  ·rw[if_neg h0]at hk;simp only[Option.some.injEq]at hk;subst hk;exact absurd h h0
end Go.Ab.Tt
