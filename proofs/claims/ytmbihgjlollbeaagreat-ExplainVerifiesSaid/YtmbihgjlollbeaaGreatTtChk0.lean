import Derived.Test.YtmbihgjlollbeaaGreatTtData
import Derived.Test.YtmbihgjlollbeaaGreatAbLib
namespace Go.Ab.Tt
set_option linter.all false
theorem aJ(a b:Bool):(bif a then some b else some false)=some (a&&b):=by cases a<;>rfl
theorem az(a b:Bool):(bif a then some true else some b)=some (a||b):=by cases a<;>rfl
theorem bT{A:Type}[DecidableEq A][BEq A][LawfulBEq A](a b:A):(a==b)=decide (a=b):=by grind
theorem eC{A:Type}[DecidableEq A][BEq A][LawfulBEq A](a b:A):(a !=b)= !decide (a=b):=by grind
section
variable {K:Type} [DecidableEq K]
def C5(a:K)(v:PV):List (K×PV)→List (K×PV)
 |[]=>[(a,v)]
 |(b,u)::r=>if a=b then(a,v)::r else(b,u)::C5 a v r
def yG(a:K)(z:PV):List (K×PV)→PV
 |[]=>z
 |(b,u)::r=>if a=b then u else yG a z r
def rK(key:K→PV)(m:List (K×PV)):List (PV×PV):=m.map fun x=>(key x.1,x.2)
theorem vR(a b:K)(v z:PV):∀m,yG a z (C5 b v m)=if a=b then v else yG a z m
 |[]=>rfl
 |(c,u)::r=>by
  simp only[C5];by_cases h:b=c
  ·simp_all[BY,yG]
  ·simp only[IS h,yG,vR a b v z r];grind
variable {key:K→PV} (hk:∀a b,cz (key a).cells (key b).cells=decide (a=b))
include hk
theorem Ko(a:K)(v:PV):∀m,dJ (key a) v (rK key m)=rK key (C5 a v m)
 |[]=>rfl
 |(b,u)::r=>by
  simp only[rK,ass,dJ,hk,C5];by_cases h:a=b
  ·simp[h]
  ·have:=Ko a v r;simp only[rK]at this;simp[h,this]
theorem He(a:K)(z:PV):∀m,cB (key a) z (rK key m)=yG a z m
 |[]=>rfl
 |(b,u)::r=>by
  simp only[rK,ass,cB,hk,yG];by_cases h:a=b
  ·simp[h]
  ·have:=He a z r;simp only[rK]at this;simp[h,this]
omit hk
def Pa(l:List K):List (K×PV):=l.foldl (fun m a=>C5 a (.bool true) m) []
def seen(key:K→PV)(l:List K):List (PV×PV):=rK key (Pa l)
theorem VY(l:List K)(a:K):Pa (l++[a])=C5 a (.bool true) (Pa l):=by simp[Pa]
theorem VZ(a:K)(l:List K):yG a (.bool false) (Pa l)=.bool (decide (a∈l)):=by
 have key:∀(l:List K)(m:List (K×PV))(s:K→Bool),(∀a,yG a (.bool false) m=.bool (s a))→∀a,yG a (.bool false) (l.foldl (fun m a=>C5 a (.bool true) m) m)=.bool (decide (a∈l)||s a):=by
  intro l;induction l with
  |nil=>simp
  |cons b l ih=>intro m s h a;simp only[auD];rw[ih (C5 b (.bool true) m) (fun a=>decide (a=b)||s a) (fun a=>by grind [vR]) a];grind
 have:=key l [] (fun _=>false) (fun _=>rfl) a;simpa[Pa]using this
include hk
theorem eX(a:K)(l:List K):cB (key a) (.bool false) (seen key l)=.bool (decide (a∈l)):=by rw[seen,He hk,VZ]
theorem fX(a:K)(l:List K):dJ (key a) (.bool true) (seen key l)=seen key (l++[a]):=by grind [seen,Ko,VY]
end
theorem mU(a b:Bytes):cz (PV.str a).cells (PV.str b).cells=decide (a=b):=by simp[PV.cells,cz,peq,atc,bT]
theorem EJ(a b:Int):cz (PV.int .i64 a).cells (PV.int .i64 b).cells=decide (a=b):=by simp[PV.cells,cz,peq,atc,bT]
variable{R:Type}
def bK(o:Option (Option R))(fin:Option R):Option R:=match o with|some r=>r|none=>fin
theorem aC{S:Type}{body:S→(S→Option R)→Option R}(st:Nat→S)(n:Nat)(bad:Nat→Option (Option R)){fin:Option R}(h:∀k,k<n→∀rec,body (st k) rec=bK (bad k) (rec (st (k+1))))(tV:∀rec,body (st n) rec=fin)(hn:n<rounds){s0:S}(h0:st 0=s0):bd.run body s0=bK ((List.range n).findSome? bad) fin:=NT st n bad h tV hn h0
def res(i e:Int):PV:=.aG [.int .i64 i,.int .i64 e]
def bW(f:Nat→Int)(n:Nat):Int×Int:=match(List.range n).findSome? (fun k=>if f k=0 then none else some ((k:Int),f k))with|some x=>x|none=>(0,0)
def DB(k:Nat)(e:Int):Option (Option PV):=if e=0 then none else some (some (res k e))
theorem cY(f:Nat→Int)(n:Nat):bK ((List.range n).findSome? fun k=>DB k (f k)) (some (res 0 0))=some (res (bW f n).1 (bW f n).2):=by
 unfold bW;have:(List.range n).findSome? (fun k=>DB k (f k))=((List.range n).findSome? (fun k=>if f k=0 then none else some ((k:Int),f k))).map fun x=>some (res x.1 x.2):=by rw[auN];congr 1;funext k;grind [DB]
 rw[this];cases(List.range n).findSome? (fun k=>if f k=0 then none else some ((k:Int),f k))<;>rfl
def lx(b:UInt8):Bool:=(decide (97≤(b.toNat:Int))&&decide ((b.toNat:Int)≤122))||(decide (65≤(b.toNat:Int))&&decide ((b.toNat:Int)≤90))||(decide (48≤(b.toNat:Int))&&decide ((b.toNat:Int)≤57))||decide ((b.toNat:Int)=45)||decide ((b.toNat:Int)=95)||decide ((b.toNat:Int)=46)
def eW(s:Bytes):Bool:=decide (1≤s.length)&&decide (s.length≤32)&&s.all lx
theorem Du(s:Bytes)(k:Nat):QX s (k:Int)=s[k]?:=by rfl
theorem Ml{body:Bytes×Int×Unit→(Bytes×Int×Unit→Option R)→Option R}(s:Bytes)(hs:s.length≤maxLen)(ok:UInt8→Bool)(no fin:Option R)(h:∀k,(hk:k<s.length)→∀rec,body (s,(k:Int),()) rec=if ok s[k]then rec (s,((k+1:Nat):Int),())else no)(tV:∀rec,body (s,(s.length:Int),()) rec=fin):bd.run body (s,0,())=if s.all ok then fin else no:=by
 have hm:=ai;refine(NT (fun k=>(s,(k:Int),())) s.length (fun k=>(s[k]?).bind fun b=>if ok b then none else some no) (fun k hk rec=>?_) (fin:=fin) tV ?_ rfl).trans ?_
 ·rw[h k hk,cN hk,asq];by_cases hb:ok s[k]=true<;>simp[hb]
 ·have:=aw;omega
 ·rw[KQ];clear h tV hs;induction s with
  |nil=>rfl
  |cons b s ih=>
   simp only[as3,au2];by_cases hb:ok b=true
   ·simp only[hb,BY,as0];exact ih
   ·simp[hb]
theorem iw{B:Type}(p:Nat→Bool)(g:Nat→B):∀l:List Nat,l.findSome? (fun k=>if p k=true then some (g k)else none)=(l.find? p).map g
 |[]=>rfl
 |k::l=>by
  simp only[as3,auG];cases h:p k with
  |true=>simp
  |false=>simpa using iw p g l
def HQ(ids:List Bytes)(s:Bytes):Int:=match(List.range ids.length).find? (fun k=>decide (ids[k]?=some s))with|some k=>(k:Int)|none=> -1
theorem ah7(ids:List Bytes)(k:Nat)(h:k<ids.length):HQ ids ids[k]<(k:Int)↔ids[k]∈ids.take k:=by
 unfold HQ;have hex:∃j,(List.range ids.length).find? (fun j=>decide (ids[j]?=some ids[k]))=some j:=by
  cases hf:(List.range ids.length).find? (fun j=>decide (ids[j]?=some ids[k]))with
  |some j=>simp
  |none=>rw[aue]at hf;have:=hf k (by simpa using h);simp_all
 obtain⟨j,hj⟩:=hex;rw[hj];simp only;rw[atP]at hj;obtain⟨h1,h2,h3⟩:=hj;simp only[cT]at h1;constructor
 ·intro cd;refine asy.2 ⟨j,?_⟩;simp_all
 ·intro bB;obtain⟨i,hi⟩:=asy.1 bB;grind
theorem cX{S R:Type}{body:S→(S→Option R)→Option R}(st:Nat→S)(i:Nat)(hit:Nat→Bool){no fin:Option R}(h:∀k,k<i→∀rec,body (st k) rec=if hit k=true then no else rec (st (k+1)))(tV:∀rec,body (st i) rec=fin)(hi:i<rounds){s0:S}(h0:st 0=s0):bd.run body s0=if(List.range i).any hit=true then no else fin:=by
 refine(aC st i (fun k=>if hit k=true then some no else none) (fun k hk rec=>?_) tV hi h0).trans ?_
 ·grind [bK]
 ·have:∀l:List Nat,bK (l.findSome? fun k=>if hit k=true then some no else none) fin=if l.any hit=true then no else fin:=by
   intro l;induction l with
   |nil=>rfl
   |cons k l ih=>
    simp only[as3,aud];by_cases hh:hit k=true
    ·simp[hh,bK]
    simp_all
  exact this _
theorem jg{A:Type}[DecidableEq A](ids:List A)(i:Nat)(h:i≤ids.length)(x:A):(List.range i).any (fun k=>decide (ids[k]?=some x))=decide (x∈ids.take i):=by
 rw[asS];simp only[ati,ath,cT];constructor
 ·rintro⟨k,hk,hx⟩;exact asy.2 ⟨k,by grind⟩
 ·intro bB;obtain⟨k,hk⟩:=asy.1 bB;grind
theorem ll{A B:Type}(f:A→B)(l:List A)(k:Nat)(h:k<l.length):(l.map f).take (k+1)=(l.map f).take k++[f l[k]]:=by simp_all[asr]
theorem ah8(ids:List Bytes)(s:Bytes):HQ ids s≥0↔s∈ids:=by
 unfold HQ;cases hf:(List.range ids.length).find? (fun j=>decide (ids[j]?=some s))with
 |some j=>grind
 |none=>rw[aue]at hf;refine⟨fun h=>absurd h (by simp),fun bB=>?_⟩;obtain⟨j,hj⟩:=asy.1 bB;grind
def QA(e:Int):Option (Option PV):=if e=0 then none else some (some (.int .i64 e))
theorem Mr(f:Nat→Int)(n:Nat):bK ((List.range n).findSome? fun k=>QA (f k)) (some (.int .i64 0))=some (.int .i64 (bW f n).2):=by
 unfold bW;have:(List.range n).findSome? (fun k=>QA (f k))=((List.range n).findSome? (fun k=>if f k=0 then none else some ((k:Int),f k))).map fun x=>some (.int .i64 x.2):=by rw[auN];congr 1;funext k;grind [QA]
 rw[this];cases(List.range n).findSome? (fun k=>if f k=0 then none else some ((k:Int),f k))<;>rfl
theorem aa6(f:Nat→Int)(n:Nat)(h:(bW f n).2=0):(bW f n).1=0:=by
 unfold bW at*;cases hf:(List.range n).findSome? (fun k=>if f k=0 then none else some ((k:Int),f k))with
 |none=>rfl
 |some x=>rw[hf]at h;obtain⟨k,_,hk⟩:=asY hf;grind
end Go.Ab.Tt
