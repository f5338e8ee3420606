import Derived.Test.YtanikidijjaohaaGreatTtData
import Derived.Test.YtanikidijjaohaaGreatAbLib
namespace Go.Ab.Tt
set_option linter.unusedVariables false
theorem bf(a b:Bool):(bif a then some b else some false)=some (a&&b):=by cases a<;>rfl
theorem aY(a b:Bool):(bif a then some true else some b)=some (a||b):=by cases a<;>rfl
theorem fa{A:Type}[DecidableEq A][BEq A][LawfulBEq A](a b:A):(a==b)=decide (a=b):=by rw[ajO];simp
theorem nJ{A:Type}[DecidableEq A][BEq A][LawfulBEq A](a b:A):(a !=b)= !decide (a=b):=by rw[ajO];simp
section
variable {K:Type} [DecidableEq K]
def AD(a:K)(v:PV):List (K×PV)→List (K×PV)
 |[]=>[(a,v)]
 |(b,u)::r=>if a=b then(a,v)::r else(b,u)::AD a v r
def yo(a:K)(z:PV):List (K×PV)→PV
 |[]=>z
 |(b,u)::r=>if a=b then u else yo a z r
def wE(key:K→PV)(m:List (K×PV)):List (PV×PV):=m.map fun x=>(key x.1,x.2)
theorem CP(a b:K)(v z:PV):∀m,yo a z (AD b v m)=if a=b then v else yo a z m
 |[]=>rfl
 |(c,u)::r=>by
  simp only[AD];by_cases h:b=c
  ·subst h;simp only[aaV,yo];by_cases h2:a=b<;>simp[h2]
  ·simp only[IN h,yo,CP a b v z r];by_cases h2:a=c
   ·subst h2;simp[Ne.symm h]
   ·simp[h2]
variable {key:K→PV} (hk:∀a b,dW (key a).cells (key b).cells=decide (a=b))
include hk
theorem Kq(a:K)(v:PV):∀m,fg (key a) v (wE key m)=wE key (AD a v m)
 |[]=>rfl
 |(b,u)::r=>by
  simp only[wE,ajy,fg,hk,AD];by_cases h:a=b
  ·simp[h]
  ·have:=Kq a v r;simp only[wE]at this;simp[h,this]
theorem GL(a:K)(z:PV):∀m,dS (key a) z (wE key m)=yo a z m
 |[]=>rfl
 |(b,u)::r=>by
  simp only[wE,ajy,dS,hk,yo];by_cases h:a=b
  ·simp[h]
  ·have:=GL a z r;simp only[wE]at this;simp[h,this]
omit hk
def Ja(l:List K):List (K×PV):=l.foldl (fun m a=>AD a (.bool true) m) []
def seen(key:K→PV)(l:List K):List (PV×PV):=wE key (Ja l)
theorem Sc(l:List K)(a:K):Ja (l++[a])=AD a (.bool true) (Ja l):=by simp[Ja]
theorem Sd(a:K)(l:List K):yo a (.bool false) (Ja l)=.bool (decide (a∈l)):=by
 have key:∀(l:List K)(m:List (K×PV))(s:K→Bool),(∀a,yo a (.bool false) m=.bool (s a))→∀a,yo a (.bool false) (l.foldl (fun m a=>AD a (.bool true) m) m)=.bool (decide (a∈l)||s a):=by
  intro l;induction l with
  |nil=>intro m s h a;simp[h a]
  |cons b l ih=>
   intro m s h a;simp only[amP];rw[ih (AD b (.bool true) m) (fun a=>decide (a=b)||s a) (fun a=>by
    rw[CP];by_cases uh:a=b
    ·simp[uh]
    ·simp[uh,h a]) a]
   simp only[PV.bool.injEq,ah4,Bool.decide_or];cases decide (a∈l)<;>cases decide (a=b)<;>rfl
 have:=key l [] (fun _=>false) (fun _=>rfl) a;simpa[Ja]using this
include hk
theorem mW(a:K)(l:List K):dS (key a) (.bool false) (seen key l)=.bool (decide (a∈l)):=by rw[seen,GL hk,Sd]
theorem pT(a:K)(l:List K):fg (key a) (.bool true) (seen key l)=seen key (l++[a]):=by rw[seen,Kq hk,seen,Sc]
end
theorem yW(a b:Bytes):dW (PV.str a).cells (PV.str b).cells=decide (a=b):=by simp only[PV.cells,dW,peq,akY,fa]
theorem Bz(a b:Int):dW (PV.int .i64 a).cells (PV.int .i64 b).cells=decide (a=b):=by simp only[PV.cells,dW,peq,akY,fa]
variable{R:Type}
def gG(o:Option (Option R))(fin:Option R):Option R:=match o with|some r=>r|none=>fin
theorem bX{S:Type}{body:S→(S→Option R)→Option R}(st:Nat→S)(n:Nat)(bad:Nat→Option (Option R)){fin:Option R}(h:∀k,k<n→∀rec,body (st k) rec=gG (bad k) (rec (st (k+1))))(oG:∀rec,body (st n) rec=fin)(hn:n<rounds){s0:S}(h0:st 0=s0):bn.run body s0=gG ((List.range n).findSome? bad) fin:=B6 st n bad h oG hn h0
def res(i e:Int):PV:=.bu [.int .i64 i,.int .i64 e]
def bY(f:Nat→Int)(n:Nat):Int×Int:=match(List.range n).findSome? (fun k=>if f k=0 then none else some ((k:Int),f k))with|some x=>x|none=>(0,0)
def ME(k:Nat)(e:Int):Option (Option PV):=if e=0 then none else some (some (res k e))
theorem pS(f:Nat→Int)(n:Nat):gG ((List.range n).findSome? fun k=>ME k (f k)) (some (res 0 0))=some (res (bY f n).1 (bY f n).2):=by
 unfold bY;have:(List.range n).findSome? (fun k=>ME k (f k))=((List.range n).findSome? (fun k=>if f k=0 then none else some ((k:Int),f k))).map fun x=>some (res x.1 x.2):=by rw[amg];congr 1;funext k;unfold ME;by_cases h:f k=0<;>simp[h]
 rw[this];cases(List.range n).findSome? (fun k=>if f k=0 then none else some ((k:Int),f k))<;>rfl
def mV(b:UInt8):Bool:=(decide (97≤(b.toNat:Int))&&decide ((b.toNat:Int)≤122))||(decide (65≤(b.toNat:Int))&&decide ((b.toNat:Int)≤90))||(decide (48≤(b.toNat:Int))&&decide ((b.toNat:Int)≤57))||decide ((b.toNat:Int)=45)||decide ((b.toNat:Int)=95)||decide ((b.toNat:Int)=46)
def kQ(s:Bytes):Bool:=decide (1≤s.length)&&decide (s.length≤32)&&s.all mV
theorem My(s:Bytes)(k:Nat):TN s (k:Int)=s[k]?:=by simp[TN]
theorem GF{body:Bytes×Int×Unit→(Bytes×Int×Unit→Option R)→Option R}(s:Bytes)(hs:s.length≤maxLen)(ok:UInt8→Bool)(no fin:Option R)(h:∀k,(hk:k<s.length)→∀rec,body (s,(k:Int),()) rec=if ok s[k]then rec (s,((k+1:Nat):Int),())else no)(oG:∀rec,body (s,(s.length:Int),()) rec=fin):bn.run body (s,0,())=if s.all ok then fin else no:=by
 have hm:=bg;refine(B6 (fun k=>(s,(k:Int),())) s.length (fun k=>(s[k]?).bind fun b=>if ok b then none else some no) (fun k hk rec=>?_) (fin:=fin) oG ?_ rfl).trans ?_
 ·rw[h k hk,AI hk,ajH];by_cases hb:ok s[k]=true<;>simp[hb]
 ·have:=bp;omega
 ·rw[Oo];clear h oG hs;induction s with
  |nil=>rfl
  |cons b s ih=>
   simp only[akV,al3];by_cases hb:ok b=true
   ·simp only[hb,aaV,akp];exact ih
   ·simp[hb]
theorem DM{B:Type}(p:Nat→Bool)(g:Nat→B):∀l:List Nat,l.findSome? (fun k=>if p k=true then some (g k)else none)=(l.find? p).map g
 |[]=>rfl
 |k::l=>by
  simp only[akV,List.find?_cons];cases h:p k with
  |true=>simp
  |false=>simpa using DM p g l
theorem uX{S R:Type}{body:S→(S→Option R)→Option R}(st:Nat→S)(i:Nat)(DY:Nat→Bool){no fin:Option R}(h:∀k,k<i→∀rec,body (st k) rec=if DY k=true then no else rec (st (k+1)))(oG:∀rec,body (st i) rec=fin)(hi:i<rounds){s0:S}(h0:st 0=s0):bn.run body s0=if(List.range i).any DY=true then no else fin:=by
 refine(bX st i (fun k=>if DY k=true then some no else none) (fun k hk rec=>?_) oG hi h0).trans ?_
 ·rw[h k hk];by_cases hh:DY k=true<;>simp[hh,gG]
 ·have:∀l:List Nat,gG (l.findSome? fun k=>if DY k=true then some no else none) fin=if l.any DY=true then no else fin:=by
   intro l;induction l with
   |nil=>rfl
   |cons k l ih=>
    simp only[akV,akM];by_cases hh:DY k=true
    ·simp[hh,gG]
    ·simp only[hh,akz,abG];exact ih
  exact this _
theorem Et{A:Type}[DecidableEq A](ids:List A)(i:Nat)(h:i≤ids.length)(x:A):(List.range i).any (fun k=>decide (ids[k]?=some x))=decide (x∈ids.take i):=by
 rw[ajO];simp only[ak4,ala,I5];constructor
 ·rintro⟨k,hk,hx⟩;exact akk.2 ⟨k,by rw[akf hk];exact hx⟩
 ·intro cg;obtain⟨k,hk⟩:=akk.1 cg;have ZP:k<i:=by have:=(IS.1 hk).1;simp at this;omega
  exact⟨k,ZP,by rw[akf ZP]at hk;exact hk⟩
theorem sK{A B:Type}(f:A→B)(l:List A)(k:Nat)(h:k<l.length):(l.map f).take (k+1)=(l.map f).take k++[f l[k]]:=by rw[ajM (by simpa using h)];simp
def KV(e:Int):Option (Option PV):=if e=0 then none else some (some (.int .i64 e))
theorem QY(f:Nat→Int)(n:Nat):gG ((List.range n).findSome? fun k=>KV (f k)) (some (.int .i64 0))=some (.int .i64 (bY f n).2):=by
 unfold bY;have:(List.range n).findSome? (fun k=>KV (f k))=((List.range n).findSome? (fun k=>if f k=0 then none else some ((k:Int),f k))).map fun x=>some (.int .i64 x.2):=by rw[amg];congr 1;funext k;unfold KV;by_cases h:f k=0<;>simp[h]
 rw[this];cases(List.range n).findSome? (fun k=>if f k=0 then none else some ((k:Int),f k))<;>rfl
theorem Vb(f:Nat→Int)(n:Nat)(h:(bY f n).2=0):(bY f n).1=0:=by
 unfold bY at*;cases hf:(List.range n).findSome? (fun k=>if f k=0 then none else some ((k:Int),f k))with
 |none=>rfl
 |some x=>
  rw[hf]at h;obtain⟨k,_,hk⟩:=akw hf;by_cases h0:f k=0
  ·rw[BK h0]at hk;cases hk
  ·rw[IN h0]at hk;simp only[AT]at hk;subst hk;exact absurd h h0
end Go.Ab.Tt
