import Derived.Test.YteddgaennnfacaaGreatTtData
import Derived.Test.YteddgaennnfacaaGreatAbLib
namespace Go.Ab.Tt
set_option linter.all false
theorem bt(a b:Bool):(bif a then some b else some false)=some (a&&b):=by cases a<;>rfl
theorem aL(a b:Bool):(bif a then some true else some b)=some (a||b):=by cases a<;>rfl
theorem cd{A:Type}[DecidableEq A][BEq A][LawfulBEq A](a b:A):(a==b)=decide (a=b):=by grind
theorem dy{A:Type}[DecidableEq A][BEq A][LawfulBEq A](a b:A):(a !=b)= !decide (a=b):=by grind
section
variable {K:Type} [DecidableEq K]
def Ey(a:K)(v:PV):List (K×PV)→List (K×PV)
 |[]=>[(a,v)]
 |(b,u)::r=>if a=b then(a,v)::r else(b,u)::Ey a v r
def AX(a:K)(z:PV):List (K×PV)→PV
 |[]=>z
 |(b,u)::r=>if a=b then u else AX a z r
def zy(key:K→PV)(m:List (K×PV)):List (PV×PV):=m.map fun x=>(key x.1,x.2)
theorem FD(a b:K)(v z:PV):∀m,AX a z (Ey b v m)=if a=b then v else AX a z m
 |[]=>rfl
 |(c,u)::r=>by
  simp only[Ey];by_cases h:b=c
  ·simp_all[IT,AX]
  ·simp only[acB h,AX,FD a b v z r];grind
variable {key:K→PV} (hk:∀a b,bM (key a).cells (key b).cells=decide (a=b))
include hk
theorem ME(a:K)(v:PV):∀m,dm (key a) v (zy key m)=zy key (Ey a v m)
 |[]=>rfl
 |(b,u)::r=>by
  simp only[zy,alu,dm,hk,Ey];by_cases h:a=b
  ·simp[h]
  ·have:=ME a v r;simp only[zy]at this;simp[h,this]
theorem Jb(a:K)(z:PV):∀m,bS (key a) z (zy key m)=AX a z m
 |[]=>rfl
 |(b,u)::r=>by
  simp only[zy,alu,bS,hk,AX];by_cases h:a=b
  ·simp[h]
  ·have:=Jb a z r;simp only[zy]at this;simp[h,this]
omit hk
def LA(l:List K):List (K×PV):=l.foldl (fun m a=>Ey a (.bool true) m) []
def seen(key:K→PV)(l:List K):List (PV×PV):=zy key (LA l)
theorem RU(l:List K)(a:K):LA (l++[a])=Ey a (.bool true) (LA l):=by simp[LA]
theorem RV(a:K)(l:List K):AX a (.bool false) (LA l)=.bool (decide (a∈l)):=by
 have key:∀(l:List K)(m:List (K×PV))(s:K→Bool),(∀a,AX a (.bool false) m=.bool (s a))→∀a,AX a (.bool false) (l.foldl (fun m a=>Ey a (.bool true) m) m)=.bool (decide (a∈l)||s a):=by
  intro l;induction l with
  |nil=>simp
  |cons b l ih=>intro m s h a;simp only[ans];rw[ih (Ey b (.bool true) m) (fun a=>decide (a=b)||s a) (fun a=>by grind [FD]) a];grind
 have:=key l [] (fun _=>false) (fun _=>rfl) a;simpa[LA]using this
include hk
theorem eF(a:K)(l:List K):bS (key a) (.bool false) (seen key l)=.bool (decide (a∈l)):=by rw[seen,Jb hk,RV]
theorem fy(a:K)(l:List K):dm (key a) (.bool true) (seen key l)=seen key (l++[a]):=by grind [seen,ME,RU]
end
theorem qE(a b:Bytes):bM (PV.str a).cells (PV.str b).cells=decide (a=b):=by simp[PV.cells,bM,peq,amH,cd]
theorem B5(a b:Int):bM (PV.int .i64 a).cells (PV.int .i64 b).cells=decide (a=b):=by simp[PV.cells,bM,peq,amH,cd]
variable{R:Type}
def bu(o:Option (Option R))(fin:Option R):Option R:=match o with|some r=>r|none=>fin
theorem au{S:Type}{body:S→(S→Option R)→Option R}(st:Nat→S)(n:Nat)(bad:Nat→Option (Option R)){fin:Option R}(h:∀k,k<n→∀rec,body (st k) rec=bu (bad k) (rec (st (k+1))))(xD:∀rec,body (st n) rec=fin)(hn:n<rounds){s0:S}(h0:st 0=s0):aX.run body s0=bu ((List.range n).findSome? bad) fin:=Kr st n bad h xD hn h0
def res(i e:Int):PV:=.aG [.int .i64 i,.int .i64 e]
def bJ(f:Nat→Int)(n:Nat):Int×Int:=match(List.range n).findSome? (fun k=>if f k=0 then none else some ((k:Int),f k))with|some x=>x|none=>(0,0)
def AU(k:Nat)(e:Int):Option (Option PV):=if e=0 then none else some (some (res k e))
theorem cP(f:Nat→Int)(n:Nat):bu ((List.range n).findSome? fun k=>AU k (f k)) (some (res 0 0))=some (res (bJ f n).1 (bJ f n).2):=by
 unfold bJ;have:(List.range n).findSome? (fun k=>AU k (f k))=((List.range n).findSome? (fun k=>if f k=0 then none else some ((k:Int),f k))).map fun x=>some (res x.1 x.2):=by rw[anQ];congr 1;funext k;grind [AU]
 rw[this];cases(List.range n).findSome? (fun k=>if f k=0 then none else some ((k:Int),f k))<;>rfl
def jI(b:UInt8):Bool:=(decide (97≤(b.toNat:Int))&&decide ((b.toNat:Int)≤122))||(decide (65≤(b.toNat:Int))&&decide ((b.toNat:Int)≤90))||(decide (48≤(b.toNat:Int))&&decide ((b.toNat:Int)≤57))||decide ((b.toNat:Int)=45)||decide ((b.toNat:Int)=95)||decide ((b.toNat:Int)=46)
def eo(s:Bytes):Bool:=decide (1≤s.length)&&decide (s.length≤32)&&s.all jI
theorem AO(s:Bytes)(k:Nat):Ng s (k:Int)=s[k]?:=by rfl
theorem IY{body:Bytes×Int×Unit→(Bytes×Int×Unit→Option R)→Option R}(s:Bytes)(hs:s.length≤maxLen)(ok:UInt8→Bool)(no fin:Option R)(h:∀k,(hk:k<s.length)→∀rec,body (s,(k:Int),()) rec=if ok s[k]then rec (s,((k+1:Nat):Int),())else no)(xD:∀rec,body (s,(s.length:Int),()) rec=fin):aX.run body (s,0,())=if s.all ok then fin else no:=by
 have hm:=al;refine(Kr (fun k=>(s,(k:Int),())) s.length (fun k=>(s[k]?).bind fun b=>if ok b then none else some no) (fun k hk rec=>?_) (fin:=fin) xD ?_ rfl).trans ?_
 ·rw[h k hk,AI hk,alr];by_cases hb:ok s[k]=true<;>simp[hb]
 ·have:=aq;omega
 ·rw[HH];clear h xD hs;induction s with
  |nil=>rfl
  |cons b s ih=>
   simp only[al8,an5];by_cases hb:ok b=true
   ·simp only[hb,IT,ama];exact ih
   ·simp[hb]
theorem fM{B:Type}(p:Nat→Bool)(g:Nat→B):∀l:List Nat,l.findSome? (fun k=>if p k=true then some (g k)else none)=(l.find? p).map g
 |[]=>rfl
 |k::l=>by
  simp only[al8,anu];cases h:p k with
  |true=>simp
  |false=>simpa using fM p g l
def EP(ids:List Bytes)(s:Bytes):Int:=match(List.range ids.length).find? (fun k=>decide (ids[k]?=some s))with|some k=>(k:Int)|none=> -1
theorem acL(ids:List Bytes)(k:Nat)(h:k<ids.length):EP ids ids[k]<(k:Int)↔ids[k]∈ids.take k:=by
 unfold EP;have hex:∃j,(List.range ids.length).find? (fun j=>decide (ids[j]?=some ids[k]))=some j:=by
  cases hf:(List.range ids.length).find? (fun j=>decide (ids[j]?=some ids[k]))with
  |some j=>simp
  |none=>rw[anp]at hf;have:=hf k (by simpa using h);simp_all
 obtain⟨j,hj⟩:=hex;rw[hj];simp only;rw[ano]at hj;obtain⟨h1,h2,h3⟩:=hj;simp only[AT]at h1;constructor
 ·intro bQ;refine als.2 ⟨j,?_⟩;simp_all
 ·intro bk;obtain⟨i,hi⟩:=als.1 bk;grind
theorem cQ{S R:Type}{body:S→(S→Option R)→Option R}(st:Nat→S)(i:Nat)(hit:Nat→Bool){no fin:Option R}(h:∀k,k<i→∀rec,body (st k) rec=if hit k=true then no else rec (st (k+1)))(xD:∀rec,body (st i) rec=fin)(hi:i<rounds){s0:S}(h0:st 0=s0):aX.run body s0=if(List.range i).any hit=true then no else fin:=by
 refine(au st i (fun k=>if hit k=true then some no else none) (fun k hk rec=>?_) xD hi h0).trans ?_
 ·grind [bu]
 ·have:∀l:List Nat,bu (l.findSome? fun k=>if hit k=true then some no else none) fin=if l.any hit=true then no else fin:=by
   intro l;induction l with
   |nil=>rfl
   |cons k l ih=>
    simp only[al8,an4];by_cases hh:hit k=true
    ·simp[hh,bu]
    simp_all
  exact this _
theorem gB{A:Type}[DecidableEq A](ids:List A)(i:Nat)(h:i≤ids.length)(x:A):(List.range i).any (fun k=>decide (ids[k]?=some x))=decide (x∈ids.take i):=by
 rw[alE];simp only[amx,alI,AT];constructor
 ·rintro⟨k,hk,hx⟩;exact als.2 ⟨k,by grind⟩
 ·intro bk;obtain⟨k,hk⟩:=als.1 bk;grind
theorem jC{A B:Type}(f:A→B)(l:List A)(k:Nat)(h:k<l.length):(l.map f).take (k+1)=(l.map f).take k++[f l[k]]:=by simp_all[alx]
theorem acM(ids:List Bytes)(s:Bytes):EP ids s≥0↔s∈ids:=by
 unfold EP;cases hf:(List.range ids.length).find? (fun j=>decide (ids[j]?=some s))with
 |some j=>grind
 |none=>rw[anp]at hf;refine⟨fun h=>absurd h (by simp),fun bk=>?_⟩;obtain⟨j,hj⟩:=als.1 bk;grind
def M5(e:Int):Option (Option PV):=if e=0 then none else some (some (.int .i64 e))
theorem I5(f:Nat→Int)(n:Nat):bu ((List.range n).findSome? fun k=>M5 (f k)) (some (.int .i64 0))=some (.int .i64 (bJ f n).2):=by
 unfold bJ;have:(List.range n).findSome? (fun k=>M5 (f k))=((List.range n).findSome? (fun k=>if f k=0 then none else some ((k:Int),f k))).map fun x=>some (.int .i64 x.2):=by rw[anQ];congr 1;funext k;grind [M5]
 rw[this];cases(List.range n).findSome? (fun k=>if f k=0 then none else some ((k:Int),f k))<;>rfl
theorem VD(f:Nat→Int)(n:Nat)(h:(bJ f n).2=0):(bJ f n).1=0:=by
 unfold bJ at*;cases hf:(List.range n).findSome? (fun k=>if f k=0 then none else some ((k:Int),f k))with
 |none=>rfl
 |some x=>rw[hf]at h;obtain⟨k,_,hk⟩:=alX hf;grind
end Go.Ab.Tt
