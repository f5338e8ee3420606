import Derived.Test.YtcmhmlnkhmefbaaTtData
import Derived.Test.YtcmhmlnkhmefbaaAbLib
namespace Go.Ab.Tt
set_option linter.unusedVariables false
theorem iu(a b:Bool):(bif a then some b else some false)=some (a&&b):=by cases a<;>rfl
theorem cC(a b:Bool):(bif a then some true else some b)=some (a||b):=by cases a<;>rfl
theorem j6{A:Type}[DecidableEq A][BEq A][LawfulBEq A](a b:A):(a==b)=decide (a=b):=by rw[Bool.eq_iff_iff];simp
theorem sV{A:Type}[DecidableEq A][BEq A][LawfulBEq A](a b:A):(a !=b)= !decide (a=b):=by rw[Bool.eq_iff_iff];simp
section
variable {K:Type} [DecidableEq K]
def tD(a:K)(v:PV):List (K×PV)→List (K×PV)
 |[]=>[(a,v)]
 |(b,u)::r=>if a=b then(a,v)::r else(b,u)::tD a v r
def rz(a:K)(z:PV):List (K×PV)→PV
 |[]=>z
 |(b,u)::r=>if a=b then u else rz a z r
def qe(key:K→PV)(m:List (K×PV)):List (PV×PV):=m.map fun x=>(key x.1,x.2)
theorem vX(a b:K)(v z:PV):∀m,rz a z (tD b v m)=if a=b then v else rz a z m
 |[]=>rfl
 |(c,u)::r=>by
  simp only[tD];by_cases h:b=c
  ·subst h;simp only[if_true,rz];by_cases h2:a=b<;>simp[h2]
  ·simp only[if_neg h,rz,vX a b v z r];by_cases h2:a=c
   ·subst h2;simp[Ne.symm h]
   ·simp[h2]
variable {key:K→PV} (hk:∀a b,cA (key a).cells (key b).cells=decide (a=b))
include hk
theorem CQ(a:K)(v:PV):∀m,eA (key a) v (qe key m)=qe key (tD a v m)
 |[]=>rfl
 |(b,u)::r=>by
  simp only[qe,List.map_cons,eA,hk,tD];by_cases h:a=b
  ·simp[h]
  ·have:=CQ a v r;simp only[qe]at this;simp[h,this]
theorem zG(a:K)(z:PV):∀m,dB (key a) z (qe key m)=rz a z m
 |[]=>rfl
 |(b,u)::r=>by
  simp only[qe,List.map_cons,dB,hk,rz];by_cases h:a=b
  ·simp[h]
  ·have:=zG a z r;simp only[qe]at this;simp[h,this]
omit hk
def B8(l:List K):List (K×PV):=l.foldl (fun m a=>tD a (.bool true) m) []
def seen(key:K→PV)(l:List K):List (PV×PV):=qe key (B8 l)
theorem IF(l:List K)(a:K):B8 (l++[a])=tD a (.bool true) (B8 l):=by simp[B8]
theorem IG(a:K)(l:List K):rz a (.bool false) (B8 l)=.bool (decide (a∈l)):=by
 have key:∀(l:List K)(m:List (K×PV))(s:K→Bool),(∀a,rz a (.bool false) m=.bool (s a))→∀a,rz a (.bool false) (l.foldl (fun m a=>tD a (.bool true) m) m)=.bool (decide (a∈l)||s a):=by
  intro l;induction l with
  |nil=>intro m s h a;simp[h a]
  |cons b l ih=>
   intro m s h a;simp only[List.foldl_cons];rw[ih (tD b (.bool true) m) (fun a=>decide (a=b)||s a) (fun a=>by
    rw[vX];by_cases oH:a=b
    ·simp[oH]
    ·simp[oH,h a]) a]
   simp only[PV.bool.injEq,List.mem_cons,Bool.decide_or];cases decide (a∈l)<;>cases decide (a=b)<;>rfl
 have:=key l [] (fun _=>false) (fun _=>rfl) a;simpa[B8]using this
include hk
theorem jD(a:K)(l:List K):dB (key a) (.bool false) (seen key l)=.bool (decide (a∈l)):=by rw[seen,zG hk,IG]
theorem lv(a:K)(l:List K):eA (key a) (.bool true) (seen key l)=seen key (l++[a]):=by rw[seen,CQ hk,seen,IF]
end
theorem sk(a b:Bytes):cA (PV.str a).cells (PV.str b).cells=decide (a=b):=by simp only[PV.cells,cA,peq,Bool.and_true,j6]
theorem uG(a b:Int):cA (PV.int .i64 a).cells (PV.int .i64 b).cells=decide (a=b):=by simp only[PV.cells,cA,peq,Bool.and_true,j6]
variable{R:Type}
def eP(o:Option (Option R))(fin:Option R):Option R:=match o with|some r=>r|none=>fin
theorem cG{S:Type}{body:S→(S→Option R)→Option R}(st:Nat→S)(n:Nat)(bad:Nat→Option (Option R)){fin:Option R}(h:∀k,k<n→∀rec,body (st k) rec=eP (bad k) (rec (st (k+1))))(mz:∀rec,body (st n) rec=fin)(hn:n<rounds){s0:S}(h0:st 0=s0):dM.run body s0=eP ((List.range n).findSome? bad) fin:=AS st n bad h mz hn h0
def res(i e:Int):PV:=.bA [.int .i64 i,.int .i64 e]
def dI(f:Nat→Int)(n:Nat):Int×Int:=match(List.range n).findSome? (fun k=>if f k=0 then none else some ((k:Int),f k))with|some x=>x|none=>(0,0)
def En(k:Nat)(e:Int):Option (Option PV):=if e=0 then none else some (some (res k e))
theorem ry(f:Nat→Int)(n:Nat):eP ((List.range n).findSome? fun k=>En k (f k)) (some (res 0 0))=some (res (dI f n).1 (dI f n).2):=by
 unfold dI;have:(List.range n).findSome? (fun k=>En k (f k))=((List.range n).findSome? (fun k=>if f k=0 then none else some ((k:Int),f k))).map fun x=>some (res x.1 x.2):=by rw[List.map_findSome?];congr 1;funext k;unfold En;by_cases h:f k=0<;>simp[h]
 rw[this];cases(List.range n).findSome? (fun k=>if f k=0 then none else some ((k:Int),f k))<;>rfl
def sj(b:UInt8):Bool:=(decide (97≤(b.toNat:Int))&&decide ((b.toNat:Int)≤122))||(decide (65≤(b.toNat:Int))&&decide ((b.toNat:Int)≤90))||(decide (48≤(b.toNat:Int))&&decide ((b.toNat:Int)≤57))||decide ((b.toNat:Int)=45)||decide ((b.toNat:Int)=95)||decide ((b.toNat:Int)=46)
def gg(s:Bytes):Bool:=decide (1≤s.length)&&decide (s.length≤32)&&s.all sj
theorem NY(s:Bytes)(k:Nat):Md s (k:Int)=s[k]?:=by simp[Md]
theorem Ha{body:Bytes×Int×Unit→(Bytes×Int×Unit→Option R)→Option R}(s:Bytes)(hs:s.length≤maxLen)(ok:UInt8→Bool)(no fin:Option R)(h:∀k,(hk:k<s.length)→∀rec,body (s,(k:Int),()) rec=if ok s[k]then rec (s,((k+1:Nat):Int),())else no)(mz:∀rec,body (s,(s.length:Int),()) rec=fin):dM.run body (s,0,())=if s.all ok then fin else no:=by
 have hm:=c8;refine(AS (fun k=>(s,(k:Int),())) s.length (fun k=>(s[k]?).bind fun b=>if ok b then none else some no) (fun k hk rec=>?_) (fin:=fin) mz ?_ rfl).trans ?_
 ·rw[h k hk,List.getElem?_eq_getElem hk,Option.bind_some];by_cases hb:ok s[k]=true<;>simp[hb]
 ·have:=c9;omega
 ·rw[FI];clear h mz hs;induction s with
  |nil=>rfl
  |cons b s ih=>
   simp only[List.findSome?_cons,List.all_cons];by_cases hb:ok b=true
   ·simp only[hb,if_true,Bool.true_and];exact ih
   ·simp[hb]
end Go.Ab.Tt
namespace Go.Ab.Tt
theorem rK{B:Type}(p:Nat→Bool)(g:Nat→B):∀l:List Nat,l.findSome? (fun k=>if p k=true then some (g k)else none)=(l.find? p).map g
 |[]=>rfl
 |k::l=>by
  simp only[List.findSome?_cons,List.find?_cons];cases h:p k with
  |true=>simp
  |false=>simpa using rK p g l
end Go.Ab.Tt
namespace Go.Ab.Tt
theorem O3{S R:Type}{body:S→(S→Option R)→Option R}(st:Nat→S)(i:Nat)(hit:Nat→Bool){no fin:Option R}(h:∀k,k<i→∀rec,body (st k) rec=if hit k=true then no else rec (st (k+1)))(mz:∀rec,body (st i) rec=fin)(hi:i<rounds){s0:S}(h0:st 0=s0):dM.run body s0=if(List.range i).any hit=true then no else fin:=by
 refine(cG st i (fun k=>if hit k=true then some no else none) (fun k hk rec=>?_) mz hi h0).trans ?_
 ·rw[h k hk];by_cases hh:hit k=true<;>simp[hh,eP]
 ·have:∀l:List Nat,eP (l.findSome? fun k=>if hit k=true then some no else none) fin=if l.any hit=true then no else fin:=by
   intro l;induction l with
   |nil=>rfl
   |cons k l ih=>
    simp only[List.findSome?_cons,List.any_cons];by_cases hh:hit k=true
    ·simp[hh,eP]
    ·simp only[hh,Bool.false_or,if_false];exact ih
  exact this _
theorem mY{A B:Type}(f:A→B)(l:List A)(k:Nat)(h:k<l.length):(l.map f).take (k+1)=(l.map f).take k++[f l[k]]:=by rw[List.take_succ_eq_append_getElem (by simpa using h)];simp
end Go.Ab.Tt
namespace Go.Ab.Tt
theorem K8(f:Nat→Int)(n:Nat)(h:(dI f n).2=0):(dI f n).1=0:=by
 unfold dI at*;cases hf:(List.range n).findSome? (fun k=>if f k=0 then none else some ((k:Int),f k))with
 |none=>rfl
 |some x=>
  rw[hf]at h;obtain⟨k,_,hk⟩:=List.exists_of_findSome?_eq_some hf;by_cases h0:f k=0
  ·rw[if_pos h0]at hk;cases hk
  ·rw[if_neg h0]at hk;simp only[Option.some.injEq]at hk;subst hk;exact absurd h h0
end Go.Ab.Tt
