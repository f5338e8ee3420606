import Derived.Test.YtoaknfoobjnjgaaGreatTtData
import Derived.Test.YtoaknfoobjnjgaaGreatAbLib
namespace Go.Ab.Tt
set_option linter.all false
theorem bI(a b:Bool):(bif a then some b else some false)=some (a&&b):=by cases a<;>rfl
theorem aT(a b:Bool):(bif a then some true else some b)=some (a||b):=by cases a<;>rfl
theorem cZ{A:Type}[DecidableEq A][BEq A][LawfulBEq A](a b:A):(a==b)=decide (a=b):=by grind
theorem fb{A:Type}[DecidableEq A][BEq A][LawfulBEq A](a b:A):(a !=b)= !decide (a=b):=by grind
section
variable {K:Type} [DecidableEq K]
def E1(a:K)(v:PV):List (K×PV)→List (K×PV)
 |[]=>[(a,v)]
 |(b,u)::r=>if a=b then(a,v)::r else(b,u)::E1 a v r
def Bx(a:K)(z:PV):List (K×PV)→PV
 |[]=>z
 |(b,u)::r=>if a=b then u else Bx a z r
def An(key:K→PV)(m:List (K×PV)):List (PV×PV):=m.map fun x=>(key x.1,x.2)
theorem Gh(a b:K)(v z:PV):∀m,Bx a z (E1 b v m)=if a=b then v else Bx a z m
 |[]=>rfl
 |(c,u)::r=>by
  simp only[E1];by_cases h:b=c
  ·simp_all[BY,Bx]
  ·simp only[QU h,Bx,Gh a b v z r];grind
variable {key:K→PV} (hk:∀a b,bO (key a).cells (key b).cells=decide (a=b))
include hk
theorem N2(a:K)(v:PV):∀m,dd (key a) v (An key m)=An key (E1 a v m)
 |[]=>rfl
 |(b,u)::r=>by
  simp only[An,aog,dd,hk,E1];by_cases h:a=b
  ·simp[h]
  ·have:=N2 a v r;simp only[An]at this;simp[h,this]
theorem JY(a:K)(z:PV):∀m,bS (key a) z (An key m)=Bx a z m
 |[]=>rfl
 |(b,u)::r=>by
  simp only[An,aog,bS,hk,Bx];by_cases h:a=b
  ·simp[h]
  ·have:=JY a z r;simp only[An]at this;simp[h,this]
omit hk
def MF(l:List K):List (K×PV):=l.foldl (fun m a=>E1 a (.bool true) m) []
def seen(key:K→PV)(l:List K):List (PV×PV):=An key (MF l)
theorem Tz(l:List K)(a:K):MF (l++[a])=E1 a (.bool true) (MF l):=by simp[MF]
theorem TA(a:K)(l:List K):Bx a (.bool false) (MF l)=.bool (decide (a∈l)):=by
 have key:∀(l:List K)(m:List (K×PV))(s:K→Bool),(∀a,Bx a (.bool false) m=.bool (s a))→∀a,Bx a (.bool false) (l.foldl (fun m a=>E1 a (.bool true) m) m)=.bool (decide (a∈l)||s a):=by
  intro l;induction l with
  |nil=>simp
  |cons b l ih=>intro m s h a;simp only[aqX];rw[ih (E1 b (.bool true) m) (fun a=>decide (a=b)||s a) (fun a=>by grind [Gh]) a];grind
 have:=key l [] (fun _=>false) (fun _=>rfl) a;simpa[MF]using this
include hk
theorem eM(a:K)(l:List K):bS (key a) (.bool false) (seen key l)=.bool (decide (a∈l)):=by rw[seen,JY hk,TA]
theorem fJ(a:K)(l:List K):dd (key a) (.bool true) (seen key l)=seen key (l++[a]):=by grind [seen,N2,Tz]
end
theorem q8(a b:Bytes):bO (PV.str a).cells (PV.str b).cells=decide (a=b):=by simp[PV.cells,bO,peq,apw,cZ]
theorem CD(a b:Int):bO (PV.int .i64 a).cells (PV.int .i64 b).cells=decide (a=b):=by simp[PV.cells,bO,peq,apw,cZ]
variable{R:Type}
def bC(o:Option (Option R))(fin:Option R):Option R:=match o with|some r=>r|none=>fin
theorem aB{S:Type}{body:S→(S→Option R)→Option R}(st:Nat→S)(n:Nat)(bad:Nat→Option (Option R)){fin:Option R}(h:∀k,k<n→∀rec,body (st k) rec=bC (bad k) (rec (st (k+1))))(ye:∀rec,body (st n) rec=fin)(hn:n<rounds){s0:S}(h0:st 0=s0):aV.run body s0=bC ((List.range n).findSome? bad) fin:=Lk st n bad h ye hn h0
def res(i e:Int):PV:=.aI [.int .i64 i,.int .i64 e]
def cE(f:Nat→Int)(n:Nat):Int×Int:=match(List.range n).findSome? (fun k=>if f k=0 then none else some ((k:Int),f k))with|some x=>x|none=>(0,0)
def Bw(k:Nat)(e:Int):Option (Option PV):=if e=0 then none else some (some (res k e))
theorem dy(f:Nat→Int)(n:Nat):bC ((List.range n).findSome? fun k=>Bw k (f k)) (some (res 0 0))=some (res (cE f n).1 (cE f n).2):=by
 unfold cE;have:(List.range n).findSome? (fun k=>Bw k (f k))=((List.range n).findSome? (fun k=>if f k=0 then none else some ((k:Int),f k))).map fun x=>some (res x.1 x.2):=by rw[aqC];congr 1;funext k;grind [Bw]
 rw[this];cases(List.range n).findSome? (fun k=>if f k=0 then none else some ((k:Int),f k))<;>rfl
def lI(b:UInt8):Bool:=(decide (97≤(b.toNat:Int))&&decide ((b.toNat:Int)≤122))||(decide (65≤(b.toNat:Int))&&decide ((b.toNat:Int)≤90))||(decide (48≤(b.toNat:Int))&&decide ((b.toNat:Int)≤57))||decide ((b.toNat:Int)=45)||decide ((b.toNat:Int)=95)||decide ((b.toNat:Int)=46)
def fR(s:Bytes):Bool:=decide (1≤s.length)&&decide (s.length≤32)&&s.all lI
theorem E0(s:Bytes)(k:Nat):Rm s (k:Int)=s[k]?:=by rfl
theorem JR{body:Bytes×Int×Unit→(Bytes×Int×Unit→Option R)→Option R}(s:Bytes)(hs:s.length≤maxLen)(ok:UInt8→Bool)(no fin:Option R)(h:∀k,(hk:k<s.length)→∀rec,body (s,(k:Int),()) rec=if ok s[k]then rec (s,((k+1:Nat):Int),())else no)(ye:∀rec,body (s,(s.length:Int),()) rec=fin):aV.run body (s,0,())=if s.all ok then fin else no:=by
 have hm:=ar;refine(Lk (fun k=>(s,(k:Int),())) s.length (fun k=>(s[k]?).bind fun b=>if ok b then none else some no) (fun k hk rec=>?_) (fin:=fin) ye ?_ rfl).trans ?_
 ·rw[h k hk,ta hk,aoe];by_cases hb:ok s[k]=true<;>simp[hb]
 ·have:=aF;omega
 ·rw[Ix];clear h ye hs;induction s with
  |nil=>rfl
  |cons b s ih=>
   simp only[ao3,aqM];by_cases hb:ok b=true
   ·simp only[hb,BY,ao4];exact ih
   ·simp[hb]
theorem gZ{B:Type}(p:Nat→Bool)(g:Nat→B):∀l:List Nat,l.findSome? (fun k=>if p k=true then some (g k)else none)=(l.find? p).map g
 |[]=>rfl
 |k::l=>by
  simp only[ao3,aqs];cases h:p k with
  |true=>simp
  |false=>simpa using gZ p g l
def Fm(ids:List Bytes)(s:Bytes):Int:=match(List.range ids.length).find? (fun k=>decide (ids[k]?=some s))with|some k=>(k:Int)|none=> -1
theorem aeF(ids:List Bytes)(k:Nat)(h:k<ids.length):Fm ids ids[k]<(k:Int)↔ids[k]∈ids.take k:=by
 unfold Fm;have hex:∃j,(List.range ids.length).find? (fun j=>decide (ids[j]?=some ids[k]))=some j:=by
  cases hf:(List.range ids.length).find? (fun j=>decide (ids[j]?=some ids[k]))with
  |some j=>simp
  |none=>rw[ap9]at hf;have:=hf k (by simpa using h);simp_all
 obtain⟨j,hj⟩:=hex;rw[hj];simp only;rw[aqL]at hj;obtain⟨h1,h2,h3⟩:=hj;simp only[tc]at h1;constructor
 ·intro bF;refine aoh.2 ⟨j,?_⟩;simp_all
 ·intro bk;obtain⟨i,hi⟩:=aoh.1 bk;grind
theorem eI{S R:Type}{body:S→(S→Option R)→Option R}(st:Nat→S)(i:Nat)(hit:Nat→Bool){no fin:Option R}(h:∀k,k<i→∀rec,body (st k) rec=if hit k=true then no else rec (st (k+1)))(ye:∀rec,body (st i) rec=fin)(hi:i<rounds){s0:S}(h0:st 0=s0):aV.run body s0=if(List.range i).any hit=true then no else fin:=by
 refine(aB st i (fun k=>if hit k=true then some no else none) (fun k hk rec=>?_) ye hi h0).trans ?_
 ·grind [bC]
 ·have:∀l:List Nat,bC (l.findSome? fun k=>if hit k=true then some no else none) fin=if l.any hit=true then no else fin:=by
   intro l;induction l with
   |nil=>rfl
   |cons k l ih=>
    simp only[ao3,aqr];by_cases hh:hit k=true
    ·simp[hh,bC]
    simp_all
  exact this _
theorem lQ{A:Type}[DecidableEq A](ids:List A)(i:Nat)(h:i≤ids.length)(x:A):(List.range i).any (fun k=>decide (ids[k]?=some x))=decide (x∈ids.take i):=by
 rw[aoy];simp only[ao7,aoA,tc];constructor
 ·rintro⟨k,hk,hx⟩;exact aoh.2 ⟨k,by grind⟩
 ·intro bk;obtain⟨k,hk⟩:=aoh.1 bk;grind
theorem jR{A B:Type}(f:A→B)(l:List A)(k:Nat)(h:k<l.length):(l.map f).take (k+1)=(l.map f).take k++[f l[k]]:=by simp_all[aom]
theorem aeG(ids:List Bytes)(s:Bytes):Fm ids s≥0↔s∈ids:=by
 unfold Fm;cases hf:(List.range ids.length).find? (fun j=>decide (ids[j]?=some s))with
 |some j=>grind
 |none=>rw[ap9]at hf;refine⟨fun h=>absurd h (by simp),fun bk=>?_⟩;obtain⟨j,hj⟩:=aoh.1 bk;grind
def Oq(e:Int):Option (Option PV):=if e=0 then none else some (some (.int .i64 e))
theorem TB(f:Nat→Int)(n:Nat):bC ((List.range n).findSome? fun k=>Oq (f k)) (some (.int .i64 0))=some (.int .i64 (cE f n).2):=by
 unfold cE;have:(List.range n).findSome? (fun k=>Oq (f k))=((List.range n).findSome? (fun k=>if f k=0 then none else some ((k:Int),f k))).map fun x=>some (.int .i64 x.2):=by rw[aqC];congr 1;funext k;grind [Oq]
 rw[this];cases(List.range n).findSome? (fun k=>if f k=0 then none else some ((k:Int),f k))<;>rfl
theorem XI(f:Nat→Int)(n:Nat)(h:(cE f n).2=0):(cE f n).1=0:=by
 unfold cE at*;cases hf:(List.range n).findSome? (fun k=>if f k=0 then none else some ((k:Int),f k))with
 |none=>rfl
 |some x=>rw[hf]at h;obtain⟨k,_,hk⟩:=aoK hf;grind
end Go.Ab.Tt
