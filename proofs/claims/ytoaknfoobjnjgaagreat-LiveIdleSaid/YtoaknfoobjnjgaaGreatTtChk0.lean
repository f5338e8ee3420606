import Derived.Test.YtoaknfoobjnjgaaGreatTtData
import Derived.Test.YtoaknfoobjnjgaaGreatAbLib
set_option linter.all false
namespace Go.Ab.Tt
theorem bL(a b:Bool):(bif a then some b else some false)=some (a&&b):=by cases a<;>rfl
theorem aT(a b:Bool):(bif a then some true else some b)=some (a||b):=by cases a<;>rfl
theorem dY{A:Type}[DecidableEq A][BEq A][LawfulBEq A](a b:A):(a==b)=decide (a=b):=by grind
theorem gd{A:Type}[DecidableEq A][BEq A][LawfulBEq A](a b:A):(a !=b)= !decide (a=b):=by grind
section
variable {K:Type} [DecidableEq K]
def Dd(a:K)(v:PV):List (K×PV)→List (K×PV)
 |[]=>[(a,v)]
 |(b,u)::r=>if a=b then(a,v)::r else(b,u)::Dd a v r
def zA(a:K)(z:PV):List (K×PV)→PV
 |[]=>z
 |(b,u)::r=>if a=b then u else zA a z r
def yw(key:K→PV)(m:List (K×PV)):List (PV×PV):=m.map fun x=>(key x.1,x.2)
theorem Eu(a b:K)(v z:PV):∀m,zA a z (Dd b v m)=if a=b then v else zA a z m
 |[]=>rfl
 |(c,u)::r=>by
  simp only[Dd];by_cases h:b=c
  ·simp_all[IS,zA]
  ·simp only[IT h,zA,Eu a b v z r];grind
variable {key:K→PV} (hk:∀a b,bR (key a).cells (key b).cells=decide (a=b))
include hk
theorem Mt(a:K)(v:PV):∀m,dr (key a) v (yw key m)=yw key (Dd a v m)
 |[]=>rfl
 |(b,u)::r=>by
  simp only[yw,anB,dr,hk,Dd];by_cases h:a=b
  ·simp[h]
  ·have:=Mt a v r;simp only[yw]at this;simp[h,this]
theorem Io(a:K)(z:PV):∀m,bT (key a) z (yw key m)=zA a z m
 |[]=>rfl
 |(b,u)::r=>by
  simp only[yw,anB,bT,hk,zA];by_cases h:a=b
  ·simp[h]
  ·have:=Io a z r;simp only[yw]at this;simp[h,this]
omit hk
def K6(l:List K):List (K×PV):=l.foldl (fun m a=>Dd a (.bool true) m) []
def seen(key:K→PV)(l:List K):List (PV×PV):=yw key (K6 l)
theorem Si(l:List K)(a:K):K6 (l++[a])=Dd a (.bool true) (K6 l):=by simp[K6]
theorem Sj(a:K)(l:List K):zA a (.bool false) (K6 l)=.bool (decide (a∈l)):=by
 have key:∀(l:List K)(m:List (K×PV))(s:K→Bool),(∀a,zA a (.bool false) m=.bool (s a))→∀a,zA a (.bool false) (l.foldl (fun m a=>Dd a (.bool true) m) m)=.bool (decide (a∈l)||s a):=by
  intro l;induction l with
  |nil=>simp
  |cons b l ih=>intro m s h a;simp only[aqC];rw[ih (Dd b (.bool true) m) (fun a=>decide (a=b)||s a) (fun a=>by grind [Eu]) a];grind
 have:=key l [] (fun _=>false) (fun _=>rfl) a;simpa[K6]using this
include hk
theorem eQ(a:K)(l:List K):bT (key a) (.bool false) (seen key l)=.bool (decide (a∈l)):=by rw[seen,Io hk,Sj]
theorem fK(a:K)(l:List K):dr (key a) (.bool true) (seen key l)=seen key (l++[a]):=by grind [seen,Mt,Si]
end
theorem qJ(a b:Bytes):bR (PV.str a).cells (PV.str b).cells=decide (a=b):=by simp[PV.cells,bR,peq,apd,dY]
theorem AB(a b:Int):bR (PV.int .i64 a).cells (PV.int .i64 b).cells=decide (a=b):=by simp[PV.cells,bR,peq,apd,dY]
variable{R:Type}
def bP(o:Option (Option R))(fin:Option R):Option R:=match o with|some r=>r|none=>fin
theorem aO{S:Type}{body:S→(S→Option R)→Option R}(st:Nat→S)(n:Nat)(bad:Nat→Option (Option R)){fin:Option R}(h:∀k,k<n→∀rec,body (st k) rec=bP (bad k) (rec (st (k+1))))(lZ:∀rec,body (st n) rec=fin)(hn:n<rounds){s0:S}(h0:st 0=s0):bd.run body s0=bP ((List.range n).findSome? bad) fin:=JK st n bad h lZ hn h0
def res(i e:Int):PV:=.aV [.int .i64 i,.int .i64 e]
def bM(f:Nat→Int)(n:Nat):Int×Int:=match(List.range n).findSome? (fun k=>if f k=0 then none else some ((k:Int),f k))with|some x=>x|none=>(0,0)
def Ik(k:Nat)(e:Int):Option (Option PV):=if e=0 then none else some (some (res k e))
theorem gT(f:Nat→Int)(n:Nat):bP ((List.range n).findSome? fun k=>Ik k (f k)) (some (res 0 0))=some (res (bM f n).1 (bM f n).2):=by
 unfold bM;have:(List.range n).findSome? (fun k=>Ik k (f k))=((List.range n).findSome? (fun k=>if f k=0 then none else some ((k:Int),f k))).map fun x=>some (res x.1 x.2):=by rw[ap5];congr 1;funext k;grind [Ik]
 rw[this];cases(List.range n).findSome? (fun k=>if f k=0 then none else some ((k:Int),f k))<;>rfl
def qn(b:UInt8):Bool:=(decide (97≤(b.toNat:Int))&&decide ((b.toNat:Int)≤122))||(decide (65≤(b.toNat:Int))&&decide ((b.toNat:Int)≤90))||(decide (48≤(b.toNat:Int))&&decide ((b.toNat:Int)≤57))||decide ((b.toNat:Int)=45)||decide ((b.toNat:Int)=95)||decide ((b.toNat:Int)=46)
def dV(s:Bytes):Bool:=decide (1≤s.length)&&decide (s.length≤32)&&s.all qn
theorem OS(s:Bytes)(k:Nat):W5 s (k:Int)=s[k]?:=by rfl
theorem Ia{body:Bytes×Int×Unit→(Bytes×Int×Unit→Option R)→Option R}(s:Bytes)(hs:s.length≤maxLen)(ok:UInt8→Bool)(no fin:Option R)(h:∀k,(hk:k<s.length)→∀rec,body (s,(k:Int),()) rec=if ok s[k]then rec (s,((k+1:Nat):Int),())else no)(lZ:∀rec,body (s,(s.length:Int),()) rec=fin):bd.run body (s,0,())=if s.all ok then fin else no:=by
 have hm:=aL;refine(JK (fun k=>(s,(k:Int),())) s.length (fun k=>(s[k]?).bind fun b=>if ok b then none else some no) (fun k hk rec=>?_) (fin:=fin) lZ ?_ rfl).trans ?_
 ·rw[h k hk,ta hk,anC];by_cases hb:ok s[k]=true<;>simp[hb]
 ·have:=aN;omega
 ·rw[GJ];clear h lZ hs;induction s with
  |nil=>rfl
  |cons b s ih=>
   simp only[aou,aql];by_cases hb:ok b=true
   ·simp only[hb,IS,aoB];exact ih
   ·simp[hb]
theorem nT{B:Type}(p:Nat→Bool)(g:Nat→B):∀l:List Nat,l.findSome? (fun k=>if p k=true then some (g k)else none)=(l.find? p).map g
 |[]=>rfl
 |k::l=>by
  simp only[aou,List.find?_cons];cases h:p k with
  |true=>simp
  |false=>simpa using nT p g l
theorem jV{S R:Type}{body:S→(S→Option R)→Option R}(st:Nat→S)(i:Nat)(hit:Nat→Bool){no fin:Option R}(h:∀k,k<i→∀rec,body (st k) rec=if hit k=true then no else rec (st (k+1)))(lZ:∀rec,body (st i) rec=fin)(hi:i<rounds){s0:S}(h0:st 0=s0):bd.run body s0=if(List.range i).any hit=true then no else fin:=by
 refine(aO st i (fun k=>if hit k=true then some no else none) (fun k hk rec=>?_) lZ hi h0).trans ?_
 ·grind [bP]
 ·have:∀l:List Nat,bP (l.findSome? fun k=>if hit k=true then some no else none) fin=if l.any hit=true then no else fin:=by
   intro l;induction l with
   |nil=>rfl
   |cons k l ih=>
    simp only[aou,aqm];by_cases hh:hit k=true
    ·simp[hh,bP]
    simp_all
  exact this _
theorem Az{A:Type}[DecidableEq A](ids:List A)(i:Nat)(h:i≤ids.length)(x:A):(List.range i).any (fun k=>decide (ids[k]?=some x))=decide (x∈ids.take i):=by
 rw[anS];simp only[aoX,an0,te];constructor
 ·rintro⟨k,hk,hx⟩;exact anI.2 ⟨k,by grind⟩
 ·intro bu;obtain⟨k,hk⟩:=anI.1 bu;grind
theorem jU{A B:Type}(f:A→B)(l:List A)(k:Nat)(h:k<l.length):(l.map f).take (k+1)=(l.map f).take k++[f l[k]]:=by simp_all[anw]
def M5(e:Int):Option (Option PV):=if e=0 then none else some (some (.int .i64 e))
theorem Ry(f:Nat→Int)(n:Nat):bP ((List.range n).findSome? fun k=>M5 (f k)) (some (.int .i64 0))=some (.int .i64 (bM f n).2):=by
 unfold bM;have:(List.range n).findSome? (fun k=>M5 (f k))=((List.range n).findSome? (fun k=>if f k=0 then none else some ((k:Int),f k))).map fun x=>some (.int .i64 x.2):=by rw[ap5];congr 1;funext k;grind [M5]
 rw[this];cases(List.range n).findSome? (fun k=>if f k=0 then none else some ((k:Int),f k))<;>rfl
theorem VW(f:Nat→Int)(n:Nat)(h:(bM f n).2=0):(bM f n).1=0:=by
 unfold bM at*;cases hf:(List.range n).findSome? (fun k=>if f k=0 then none else some ((k:Int),f k))with
 |none=>rfl
 |some x=>rw[hf]at h;obtain⟨k,_,hk⟩:=an4 hf;grind
end Go.Ab.Tt
