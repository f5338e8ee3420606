import Derived.Test.YtcmhmlnkhmefbaaGreatTtData
import Derived.Test.YtcmhmlnkhmefbaaGreatAbLib
namespace Go.Ab.Tt
set_option linter.unusedVariables false
theorem dw(a b:Bool):(bif a then some b else some false)=some (a&&b):=by cases a<;>rfl
theorem bn(a b:Bool):(bif a then some true else some b)=some (a||b):=by cases a<;>rfl
theorem eW{A:Type}[DecidableEq A][BEq A][LawfulBEq A](a b:A):(a==b)=decide (a=b):=by rw[Bool.eq_iff_iff];simp
theorem kC{A:Type}[DecidableEq A][BEq A][LawfulBEq A](a b:A):(a !=b)= !decide (a=b):=by rw[Bool.eq_iff_iff];simp
section
variable {K:Type} [DecidableEq K]
def wj(a:K)(v:PV):List (K×PV)→List (K×PV)
 |[]=>[(a,v)]
 |(b,u)::r=>if a=b then(a,v)::r else(b,u)::wj a v r
def tX(a:K)(z:PV):List (K×PV)→PV
 |[]=>z
 |(b,u)::r=>if a=b then u else tX a z r
def sI(key:K→PV)(m:List (K×PV)):List (PV×PV):=m.map fun x=>(key x.1,x.2)
theorem yE(a b:K)(v z:PV):∀m,tX a z (wj b v m)=if a=b then v else tX a z m
 |[]=>rfl
 |(c,u)::r=>by
  simp only[wj];by_cases h:b=c
  ·subst h;simp only[if_true,tX];by_cases h2:a=b<;>simp[h2]
  ·simp only[if_neg h,tX,yE a b v z r];by_cases h2:a=c
   ·subst h2;simp[Ne.symm h]
   ·simp[h2]
variable {key:K→PV} (hk:∀a b,cA (key a).cells (key b).cells=decide (a=b))
include hk
theorem E1(a:K)(v:PV):∀m,eO (key a) v (sI key m)=sI key (wj a v m)
 |[]=>rfl
 |(b,u)::r=>by
  simp only[sI,List.map_cons,eO,hk,wj];by_cases h:a=b
  ·simp[h]
  ·have:=E1 a v r;simp only[sI]at this;simp[h,this]
theorem Cd(a:K)(z:PV):∀m,dK (key a) z (sI key m)=tX a z m
 |[]=>rfl
 |(b,u)::r=>by
  simp only[sI,List.map_cons,dK,hk,tX];by_cases h:a=b
  ·simp[h]
  ·have:=Cd a z r;simp only[sI]at this;simp[h,this]
omit hk
def Eh(l:List K):List (K×PV):=l.foldl (fun m a=>wj a (.bool true) m) []
def seen(key:K→PV)(l:List K):List (PV×PV):=sI key (Eh l)
theorem Mj(l:List K)(a:K):Eh (l++[a])=wj a (.bool true) (Eh l):=by simp[Eh]
theorem Mk(a:K)(l:List K):tX a (.bool false) (Eh l)=.bool (decide (a∈l)):=by
 have key:∀(l:List K)(m:List (K×PV))(s:K→Bool),(∀a,tX a (.bool false) m=.bool (s a))→∀a,tX a (.bool false) (l.foldl (fun m a=>wj a (.bool true) m) m)=.bool (decide (a∈l)||s a):=by
  intro l;induction l with
  |nil=>intro m s h a;simp[h a]
  |cons b l ih=>
   intro m s h a;simp only[List.foldl_cons];rw[ih (wj b (.bool true) m) (fun a=>decide (a=b)||s a) (fun a=>by
    rw[yE];by_cases qM:a=b
    ·simp[qM]
    ·simp[qM,h a]) a]
   simp only[PV.bool.injEq,List.mem_cons,Bool.decide_or];cases decide (a∈l)<;>cases decide (a=b)<;>rfl
 have:=key l [] (fun _=>false) (fun _=>rfl) a;simpa[Eh]using this
include hk
theorem kD(a:K)(l:List K):dK (key a) (.bool false) (seen key l)=.bool (decide (a∈l)):=by rw[seen,Cd hk,Mk]
theorem mL(a:K)(l:List K):eO (key a) (.bool true) (seen key l)=seen key (l++[a]):=by rw[seen,E1 hk,seen,Mj]
end
theorem uW(a b:Bytes):cA (PV.str a).cells (PV.str b).cells=decide (a=b):=by simp only[PV.cells,cA,peq,Bool.and_true,eW]
theorem xj(a b:Int):cA (PV.int .i64 a).cells (PV.int .i64 b).cells=decide (a=b):=by simp only[PV.cells,cA,peq,Bool.and_true,eW]
variable{R:Type}
def c8(o:Option (Option R))(fin:Option R):Option R:=match o with|some r=>r|none=>fin
theorem aX{S:Type}{body:S→(S→Option R)→Option R}(st:Nat→S)(n:Nat)(bad:Nat→Option (Option R)){fin:Option R}(h:∀k,k<n→∀rec,body (st k) rec=c8 (bad k) (rec (st (k+1))))(mV:∀rec,body (st n) rec=fin)(hn:n<rounds){s0:S}(h0:st 0=s0):ca.run body s0=c8 ((List.range n).findSome? bad) fin:=Db st n bad h mV hn h0
def res(i e:Int):PV:=.bm [.int .i64 i,.int .i64 e]
def bT(f:Nat→Int)(n:Nat):Int×Int:=match(List.range n).findSome? (fun k=>if f k=0 then none else some ((k:Int),f k))with|some x=>x|none=>(0,0)
def G9(k:Nat)(e:Int):Option (Option PV):=if e=0 then none else some (some (res k e))
theorem mK(f:Nat→Int)(n:Nat):c8 ((List.range n).findSome? fun k=>G9 k (f k)) (some (res 0 0))=some (res (bT f n).1 (bT f n).2):=by
 unfold bT;have:(List.range n).findSome? (fun k=>G9 k (f k))=((List.range n).findSome? (fun k=>if f k=0 then none else some ((k:Int),f k))).map fun x=>some (res x.1 x.2):=by rw[List.map_findSome?];congr 1;funext k;unfold G9;by_cases h:f k=0<;>simp[h]
 rw[this];cases(List.range n).findSome? (fun k=>if f k=0 then none else some ((k:Int),f k))<;>rfl
def kB(b:UInt8):Bool:=(decide (97≤(b.toNat:Int))&&decide ((b.toNat:Int)≤122))||(decide (65≤(b.toNat:Int))&&decide ((b.toNat:Int)≤90))||(decide (48≤(b.toNat:Int))&&decide ((b.toNat:Int)≤57))||decide ((b.toNat:Int)=45)||decide ((b.toNat:Int)=95)||decide ((b.toNat:Int)=46)
def eN(s:Bytes):Bool:=decide (1≤s.length)&&decide (s.length≤32)&&s.all kB
theorem G3(s:Bytes)(k:Nat):NU s (k:Int)=s[k]?:=by simp[NU]
theorem B6{body:Bytes×Int×Unit→(Bytes×Int×Unit→Option R)→Option R}(s:Bytes)(hs:s.length≤maxLen)(ok:UInt8→Bool)(no fin:Option R)(h:∀k,(hk:k<s.length)→∀rec,body (s,(k:Int),()) rec=if ok s[k]then rec (s,((k+1:Nat):Int),())else no)(mV:∀rec,body (s,(s.length:Int),()) rec=fin):ca.run body (s,0,())=if s.all ok then fin else no:=by
 have hm:=aW;refine(Db (fun k=>(s,(k:Int),())) s.length (fun k=>(s[k]?).bind fun b=>if ok b then none else some no) (fun k hk rec=>?_) (fin:=fin) mV ?_ rfl).trans ?_
 ·rw[h k hk,List.getElem?_eq_getElem hk,Option.bind_some];by_cases hb:ok s[k]=true<;>simp[hb]
 ·have:=aR;omega
 ·rw[IY];clear h mV hs;induction s with
  |nil=>rfl
  |cons b s ih=>
   simp only[List.findSome?_cons,List.all_cons];by_cases hb:ok b=true
   ·simp only[hb,if_true,Bool.true_and];exact ih
   ·simp[hb]
end Go.Ab.Tt
namespace Go.Ab.Tt
theorem pU{B:Type}(p:Nat→Bool)(g:Nat→B):∀l:List Nat,l.findSome? (fun k=>if p k=true then some (g k)else none)=(l.find? p).map g
 |[]=>rfl
 |k::l=>by
  simp only[List.findSome?_cons,List.find?_cons];cases h:p k with
  |true=>simp
  |false=>simpa using pU p g l
end Go.Ab.Tt
namespace Go.Ab.Tt
theorem oW{S R:Type}{body:S→(S→Option R)→Option R}(st:Nat→S)(i:Nat)(hit:Nat→Bool){no fin:Option R}(h:∀k,k<i→∀rec,body (st k) rec=if hit k=true then no else rec (st (k+1)))(mV:∀rec,body (st i) rec=fin)(hi:i<rounds){s0:S}(h0:st 0=s0):ca.run body s0=if(List.range i).any hit=true then no else fin:=by
 refine(aX st i (fun k=>if hit k=true then some no else none) (fun k hk rec=>?_) mV hi h0).trans ?_
 ·rw[h k hk];by_cases hh:hit k=true<;>simp[hh,c8]
 ·have:∀l:List Nat,c8 (l.findSome? fun k=>if hit k=true then some no else none) fin=if l.any hit=true then no else fin:=by
   intro l;induction l with
   |nil=>rfl
   |cons k l ih=>
    simp only[List.findSome?_cons,List.any_cons];by_cases hh:hit k=true
    ·simp[hh,c8]
    ·simp only[hh,Bool.false_or,if_false];exact ih
  exact this _
theorem Aw{A:Type}[DecidableEq A](ids:List A)(i:Nat)(h:i≤ids.length)(x:A):(List.range i).any (fun k=>decide (ids[k]?=some x))=decide (x∈ids.take i):=by
 rw[Bool.eq_iff_iff];simp only[List.any_eq_true,List.mem_range,decide_eq_true_eq];constructor
 ·rintro⟨k,hk,hx⟩;exact List.mem_iff_getElem?.2 ⟨k,by rw[List.getElem?_take_of_lt hk];exact hx⟩
 ·intro bO;obtain⟨k,hk⟩:=List.mem_iff_getElem?.1 bO;have Uo:k<i:=by have:=(List.getElem?_eq_some_iff.1 hk).1;simp at this;omega
  exact⟨k,Uo,by rw[List.getElem?_take_of_lt Uo]at hk;exact hk⟩
theorem oT{A B:Type}(f:A→B)(l:List A)(k:Nat)(h:k<l.length):(l.map f).take (k+1)=(l.map f).take k++[f l[k]]:=by rw[List.take_succ_eq_append_getElem (by simpa using h)];simp
end Go.Ab.Tt
namespace Go.Ab.Tt
def FV(e:Int):Option (Option PV):=if e=0 then none else some (some (.int .i64 e))
theorem KG(f:Nat→Int)(n:Nat):c8 ((List.range n).findSome? fun k=>FV (f k)) (some (.int .i64 0))=some (.int .i64 (bT f n).2):=by
 unfold bT;have:(List.range n).findSome? (fun k=>FV (f k))=((List.range n).findSome? (fun k=>if f k=0 then none else some ((k:Int),f k))).map fun x=>some (.int .i64 x.2):=by rw[List.map_findSome?];congr 1;funext k;unfold FV;by_cases h:f k=0<;>simp[h]
 rw[this];cases(List.range n).findSome? (fun k=>if f k=0 then none else some ((k:Int),f k))<;>rfl
theorem OY(f:Nat→Int)(n:Nat)(h:(bT f n).2=0):(bT f n).1=0:=by
 unfold bT at*;cases hf:(List.range n).findSome? (fun k=>if f k=0 then none else some ((k:Int),f k))with
 |none=>rfl
 |some x=>
  rw[hf]at h;obtain⟨k,_,hk⟩:=List.exists_of_findSome?_eq_some hf;by_cases h0:f k=0
  ·rw[if_pos h0]at hk;cases hk
  ·rw[if_neg h0]at hk;simp only[Option.some.injEq]at hk;subst hk;exact absurd h h0
end Go.Ab.Tt
