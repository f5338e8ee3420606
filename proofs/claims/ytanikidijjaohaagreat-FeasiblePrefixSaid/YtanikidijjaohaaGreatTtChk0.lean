import Derived.Test.YtanikidijjaohaaGreatTtData
import Derived.Test.YtanikidijjaohaaGreatAbLib
namespace Go.Ab.Tt
set_option linter.unusedVariables false
theorem aZ(a b:Bool):(bif a then some b else some false)=some (a&&b):=by cases a<;>rfl
theorem aW(a b:Bool):(bif a then some true else some b)=some (a||b):=by cases a<;>rfl
theorem ga{A:Type}[DecidableEq A][BEq A][LawfulBEq A](a b:A):(a==b)=decide (a=b):=by rw[Bool.eq_iff_iff];simp
theorem pD{A:Type}[DecidableEq A][BEq A][LawfulBEq A](a b:A):(a !=b)= !decide (a=b):=by rw[Bool.eq_iff_iff];simp
section
variable {K:Type} [DecidableEq K]
def yT(a:K)(v:PV):List (K×PV)→List (K×PV)
 |[]=>[(a,v)]
 |(b,u)::r=>if a=b then(a,v)::r else(b,u)::yT a v r
def wy(a:K)(z:PV):List (K×PV)→PV
 |[]=>z
 |(b,u)::r=>if a=b then u else wy a z r
def vc(key:K→PV)(m:List (K×PV)):List (PV×PV):=m.map fun x=>(key x.1,x.2)
theorem Bf(a b:K)(v z:PV):∀m,wy a z (yT b v m)=if a=b then v else wy a z m
 |[]=>rfl
 |(c,u)::r=>by
  simp only[yT];by_cases h:b=c
  ·subst h;simp only[if_true,wy];by_cases h2:a=b<;>simp[h2]
  ·simp only[if_neg h,wy,Bf a b v z r];by_cases h2:a=c
   ·subst h2;simp[Ne.symm h]
   ·simp[h2]
variable {key:K→PV} (hk:∀a b,dK (key a).cells (key b).cells=decide (a=b))
include hk
theorem Im(a:K)(v:PV):∀m,eS (key a) v (vc key m)=vc key (yT a v m)
 |[]=>rfl
 |(b,u)::r=>by
  simp only[vc,List.map_cons,eS,hk,yT];by_cases h:a=b
  ·simp[h]
  ·have:=Im a v r;simp only[vc]at this;simp[h,this]
theorem EV(a:K)(z:PV):∀m,dH (key a) z (vc key m)=wy a z m
 |[]=>rfl
 |(b,u)::r=>by
  simp only[vc,List.map_cons,dH,hk,wy];by_cases h:a=b
  ·simp[h]
  ·have:=EV a z r;simp only[vc]at this;simp[h,this]
omit hk
def He(l:List K):List (K×PV):=l.foldl (fun m a=>yT a (.bool true) m) []
def seen(key:K→PV)(l:List K):List (PV×PV):=vc key (He l)
theorem PL(l:List K)(a:K):He (l++[a])=yT a (.bool true) (He l):=by simp[He]
theorem PM(a:K)(l:List K):wy a (.bool false) (He l)=.bool (decide (a∈l)):=by
 have key:∀(l:List K)(m:List (K×PV))(s:K→Bool),(∀a,wy a (.bool false) m=.bool (s a))→∀a,wy a (.bool false) (l.foldl (fun m a=>yT a (.bool true) m) m)=.bool (decide (a∈l)||s a):=by
  intro l;induction l with
  |nil=>intro m s h a;simp[h a]
  |cons b l ih=>
   intro m s h a;simp only[List.foldl_cons];rw[ih (yT b (.bool true) m) (fun a=>decide (a=b)||s a) (fun a=>by
    rw[Bf];by_cases sQ:a=b
    ·simp[sQ]
    ·simp[sQ,h a]) a]
   simp only[PV.bool.injEq,List.mem_cons,Bool.decide_or];cases decide (a∈l)<;>cases decide (a=b)<;>rfl
 have:=key l [] (fun _=>false) (fun _=>rfl) a;simpa[He]using this
include hk
theorem lY(a:K)(l:List K):dH (key a) (.bool false) (seen key l)=.bool (decide (a∈l)):=by rw[seen,EV hk,PM]
theorem oJ(a:K)(l:List K):eS (key a) (.bool true) (seen key l)=seen key (l++[a]):=by rw[seen,Im hk,seen,PL]
end
theorem w9(a b:Bytes):dK (PV.str a).cells (PV.str b).cells=decide (a=b):=by simp only[PV.cells,dK,peq,Bool.and_true,ga]
theorem zU(a b:Int):dK (PV.int .i64 a).cells (PV.int .i64 b).cells=decide (a=b):=by simp only[PV.cells,dK,peq,Bool.and_true,ga]
variable{R:Type}
def gb(o:Option (Option R))(fin:Option R):Option R:=match o with|some r=>r|none=>fin
theorem bL{S:Type}{body:S→(S→Option R)→Option R}(st:Nat→S)(n:Nat)(bad:Nat→Option (Option R)){fin:Option R}(h:∀k,k<n→∀rec,body (st k) rec=gb (bad k) (rec (st (k+1))))(nv:∀rec,body (st n) rec=fin)(hn:n<rounds){s0:S}(h0:st 0=s0):bC.run body s0=gb ((List.range n).findSome? bad) fin:=FT st n bad h nv hn h0
def res(i e:Int):PV:=.bt [.int .i64 i,.int .i64 e]
def bN(f:Nat→Int)(n:Nat):Int×Int:=match(List.range n).findSome? (fun k=>if f k=0 then none else some ((k:Int),f k))with|some x=>x|none=>(0,0)
def Kz(k:Nat)(e:Int):Option (Option PV):=if e=0 then none else some (some (res k e))
theorem oI(f:Nat→Int)(n:Nat):gb ((List.range n).findSome? fun k=>Kz k (f k)) (some (res 0 0))=some (res (bN f n).1 (bN f n).2):=by
 unfold bN;have:(List.range n).findSome? (fun k=>Kz k (f k))=((List.range n).findSome? (fun k=>if f k=0 then none else some ((k:Int),f k))).map fun x=>some (res x.1 x.2):=by rw[List.map_findSome?];congr 1;funext k;unfold Kz;by_cases h:f k=0<;>simp[h]
 rw[this];cases(List.range n).findSome? (fun k=>if f k=0 then none else some ((k:Int),f k))<;>rfl
def lX(b:UInt8):Bool:=(decide (97≤(b.toNat:Int))&&decide ((b.toNat:Int)≤122))||(decide (65≤(b.toNat:Int))&&decide ((b.toNat:Int)≤90))||(decide (48≤(b.toNat:Int))&&decide ((b.toNat:Int)≤57))||decide ((b.toNat:Int)=45)||decide ((b.toNat:Int)=95)||decide ((b.toNat:Int)=46)
def kj(s:Bytes):Bool:=decide (1≤s.length)&&decide (s.length≤32)&&s.all lX
theorem Kt(s:Bytes)(k:Nat):Rm s (k:Int)=s[k]?:=by simp[Rm]
theorem EO{body:Bytes×Int×Unit→(Bytes×Int×Unit→Option R)→Option R}(s:Bytes)(hs:s.length≤maxLen)(ok:UInt8→Bool)(no fin:Option R)(h:∀k,(hk:k<s.length)→∀rec,body (s,(k:Int),()) rec=if ok s[k]then rec (s,((k+1:Nat):Int),())else no)(nv:∀rec,body (s,(s.length:Int),()) rec=fin):bC.run body (s,0,())=if s.all ok then fin else no:=by
 have hm:=aY;refine(FT (fun k=>(s,(k:Int),())) s.length (fun k=>(s[k]?).bind fun b=>if ok b then none else some no) (fun k hk rec=>?_) (fin:=fin) nv ?_ rfl).trans ?_
 ·rw[h k hk,List.getElem?_eq_getElem hk,Option.bind_some];by_cases hb:ok s[k]=true<;>simp[hb]
 ·have:=bf;omega
 ·rw[L5];clear h nv hs;induction s with
  |nil=>rfl
  |cons b s ih=>
   simp only[List.findSome?_cons,List.all_cons];by_cases hb:ok b=true
   ·simp only[hb,if_true,Bool.true_and];exact ih
   ·simp[hb]
end Go.Ab.Tt
namespace Go.Ab.Tt
theorem B6{B:Type}(p:Nat→Bool)(g:Nat→B):∀l:List Nat,l.findSome? (fun k=>if p k=true then some (g k)else none)=(l.find? p).map g
 |[]=>rfl
 |k::l=>by
  simp only[List.findSome?_cons,List.find?_cons];cases h:p k with
  |true=>simp
  |false=>simpa using B6 p g l
end Go.Ab.Tt
namespace Go.Ab.Tt
theorem tG{S R:Type}{body:S→(S→Option R)→Option R}(st:Nat→S)(i:Nat)(hit:Nat→Bool){no fin:Option R}(h:∀k,k<i→∀rec,body (st k) rec=if hit k=true then no else rec (st (k+1)))(nv:∀rec,body (st i) rec=fin)(hi:i<rounds){s0:S}(h0:st 0=s0):bC.run body s0=if(List.range i).any hit=true then no else fin:=by
 refine(bL st i (fun k=>if hit k=true then some no else none) (fun k hk rec=>?_) nv hi h0).trans ?_
 ·rw[h k hk];by_cases hh:hit k=true<;>simp[hh,gb]
 ·have:∀l:List Nat,gb (l.findSome? fun k=>if hit k=true then some no else none) fin=if l.any hit=true then no else fin:=by
   intro l;induction l with
   |nil=>rfl
   |cons k l ih=>
    simp only[List.findSome?_cons,List.any_cons];by_cases hh:hit k=true
    ·simp[hh,gb]
    ·simp only[hh,Bool.false_or,if_false];exact ih
  exact this _
theorem CO{A:Type}[DecidableEq A](ids:List A)(i:Nat)(h:i≤ids.length)(x:A):(List.range i).any (fun k=>decide (ids[k]?=some x))=decide (x∈ids.take i):=by
 rw[Bool.eq_iff_iff];simp only[List.any_eq_true,List.mem_range,decide_eq_true_eq];constructor
 ·rintro⟨k,hk,hx⟩;exact List.mem_iff_getElem?.2 ⟨k,by rw[List.getElem?_take_of_lt hk];exact hx⟩
 ·intro bJ;obtain⟨k,hk⟩:=List.mem_iff_getElem?.1 bJ;have Xl:k<i:=by have:=(List.getElem?_eq_some_iff.1 hk).1;simp at this;omega
  exact⟨k,Xl,by rw[List.getElem?_take_of_lt Xl]at hk;exact hk⟩
theorem rj{A B:Type}(f:A→B)(l:List A)(k:Nat)(h:k<l.length):(l.map f).take (k+1)=(l.map f).take k++[f l[k]]:=by rw[List.take_succ_eq_append_getElem (by simpa using h)];simp
end Go.Ab.Tt
namespace Go.Ab.Tt
def I0(e:Int):Option (Option PV):=if e=0 then none else some (some (.int .i64 e))
theorem OO(f:Nat→Int)(n:Nat):gb ((List.range n).findSome? fun k=>I0 (f k)) (some (.int .i64 0))=some (.int .i64 (bN f n).2):=by
 unfold bN;have:(List.range n).findSome? (fun k=>I0 (f k))=((List.range n).findSome? (fun k=>if f k=0 then none else some ((k:Int),f k))).map fun x=>some (.int .i64 x.2):=by rw[List.map_findSome?];congr 1;funext k;unfold I0;by_cases h:f k=0<;>simp[h]
 rw[this];cases(List.range n).findSome? (fun k=>if f k=0 then none else some ((k:Int),f k))<;>rfl
theorem SK(f:Nat→Int)(n:Nat)(h:(bN f n).2=0):(bN f n).1=0:=by
 unfold bN at*;cases hf:(List.range n).findSome? (fun k=>if f k=0 then none else some ((k:Int),f k))with
 |none=>rfl
 |some x=>
  rw[hf]at h;obtain⟨k,_,hk⟩:=List.exists_of_findSome?_eq_some hf;by_cases h0:f k=0
  ·rw[if_pos h0]at hk;cases hk
  ·rw[if_neg h0]at hk;simp only[Option.some.injEq]at hk;subst hk;exact absurd h h0
end Go.Ab.Tt
