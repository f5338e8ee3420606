import Derived.Test.YtmbihgjlollbeaaGreatTtData
import Derived.Test.YtmbihgjlollbeaaGreatAbLib
namespace Go.Ab.Tt
set_option linter.all false
theorem bF(a b:Bool):(bif a then some b else some false)=some (a&&b):=by cases a<;>rfl
theorem bf(a b:Bool):(bif a then some true else some b)=some (a||b):=by cases a<;>rfl
theorem iG{A:Type}[DecidableEq A][BEq A][LawfulBEq A](a b:A):(a==b)=decide (a=b):=by grind
theorem pW{A:Type}[DecidableEq A][BEq A][LawfulBEq A](a b:A):(a !=b)= !decide (a=b):=by grind
section
variable {K:Type} [DecidableEq K]
def xY(a:K)(v:PV):List (K×PV)→List (K×PV)
 |[]=>[(a,v)]
 |(b,u)::r=>if a=b then(a,v)::r else(b,u)::xY a v r
def tE(a:K)(z:PV):List (K×PV)→PV
 |[]=>z
 |(b,u)::r=>if a=b then u else tE a z r
def oJ(key:K→PV)(m:List (K×PV)):List (PV×PV):=m.map fun x=>(key x.1,x.2)
theorem rL(a b:K)(v z:PV):∀m,tE a z (xY b v m)=if a=b then v else tE a z m
 |[]=>rfl
 |(c,u)::r=>by
  simp only[xY];by_cases h:b=c
  ·simp_all[Ko,tE]
  ·simp only[IS h,tE,rL a b v z r];grind
variable {key:K→PV} (hk:∀a b,cu (key a).cells (key b).cells=decide (a=b))
include hk
theorem Eg(a:K)(v:PV):∀m,dh (key a) v (oJ key m)=oJ key (xY a v m)
 |[]=>rfl
 |(b,u)::r=>by
  simp only[oJ,akn,dh,hk,xY];by_cases h:a=b
  ·simp[h]
  ·have:=Eg a v r;simp only[oJ]at this;simp[h,this]
theorem Bu(a:K)(z:PV):∀m,b9 (key a) z (oJ key m)=tE a z m
 |[]=>rfl
 |(b,u)::r=>by
  simp only[oJ,akn,b9,hk,tE];by_cases h:a=b
  ·simp[h]
  ·have:=Bu a z r;simp only[oJ]at this;simp[h,this]
omit hk
def IQ(l:List K):List (K×PV):=l.foldl (fun m a=>xY a (.bool true) m) []
def seen(key:K→PV)(l:List K):List (PV×PV):=oJ key (IQ l)
theorem PI(l:List K)(a:K):IQ (l++[a])=xY a (.bool true) (IQ l):=by simp[IQ]
theorem PJ(a:K)(l:List K):tE a (.bool false) (IQ l)=.bool (decide (a∈l)):=by
 have key:∀(l:List K)(m:List (K×PV))(s:K→Bool),(∀a,tE a (.bool false) m=.bool (s a))→∀a,tE a (.bool false) (l.foldl (fun m a=>xY a (.bool true) m) m)=.bool (decide (a∈l)||s a):=by
  intro l;induction l with
  |nil=>simp
  |cons b l ih=>intro m s h a;simp only[amn];rw[ih (xY b (.bool true) m) (fun a=>decide (a=b)||s a) (fun a=>by grind [rL]) a];grind
 have:=key l [] (fun _=>false) (fun _=>rfl) a;simpa[IQ]using this
include hk
theorem ep(a:K)(l:List K):b9 (key a) (.bool false) (seen key l)=.bool (decide (a∈l)):=by rw[seen,Bu hk,PJ]
theorem fp(a:K)(l:List K):dh (key a) (.bool true) (seen key l)=seen key (l++[a]):=by grind [seen,Eg,PI]
end
theorem k8(a b:Bytes):cu (PV.str a).cells (PV.str b).cells=decide (a=b):=by simp[PV.cells,cu,peq,aln,iG]
theorem zp(a b:Int):cu (PV.int .i64 a).cells (PV.int .i64 b).cells=decide (a=b):=by simp[PV.cells,cu,peq,aln,iG]
variable{R:Type}
def ca(o:Option (Option R))(fin:Option R):Option R:=match o with|some r=>r|none=>fin
theorem br{S:Type}{body:S→(S→Option R)→Option R}(st:Nat→S)(n:Nat)(bad:Nat→Option (Option R)){fin:Option R}(h:∀k,k<n→∀rec,body (st k) rec=ca (bad k) (rec (st (k+1))))(rZ:∀rec,body (st n) rec=fin)(hn:n<rounds){s0:S}(h0:st 0=s0):bk.run body s0=ca ((List.range n).findSome? bad) fin:=HA st n bad h rZ hn h0
def res(i e:Int):PV:=.aO [.int .i64 i,.int .i64 e]
def cX(f:Nat→Int)(n:Nat):Int×Int:=match(List.range n).findSome? (fun k=>if f k=0 then none else some ((k:Int),f k))with|some x=>x|none=>(0,0)
def Gw(k:Nat)(e:Int):Option (Option PV):=if e=0 then none else some (some (res k e))
theorem kH(f:Nat→Int)(n:Nat):ca ((List.range n).findSome? fun k=>Gw k (f k)) (some (res 0 0))=some (res (cX f n).1 (cX f n).2):=by
 unfold cX;have:(List.range n).findSome? (fun k=>Gw k (f k))=((List.range n).findSome? (fun k=>if f k=0 then none else some ((k:Int),f k))).map fun x=>some (res x.1 x.2):=by rw[List.map_findSome?];congr 1;funext k;grind [Gw]
 rw[this];cases(List.range n).findSome? (fun k=>if f k=0 then none else some ((k:Int),f k))<;>rfl
def zl(b:UInt8):Bool:=(decide (97≤(b.toNat:Int))&&decide ((b.toNat:Int)≤122))||(decide (65≤(b.toNat:Int))&&decide ((b.toNat:Int)≤90))||(decide (48≤(b.toNat:Int))&&decide ((b.toNat:Int)≤57))||decide ((b.toNat:Int)=45)||decide ((b.toNat:Int)=95)||decide ((b.toNat:Int)=46)
def lR(s:Bytes):Bool:=decide (1≤s.length)&&decide (s.length≤32)&&s.all zl
theorem W4(s:Bytes)(k:Nat):Zy s (k:Int)=s[k]?:=by rfl
theorem Pc{body:Bytes×Int×Unit→(Bytes×Int×Unit→Option R)→Option R}(s:Bytes)(hs:s.length≤maxLen)(ok:UInt8→Bool)(no fin:Option R)(h:∀k,(hk:k<s.length)→∀rec,body (s,(k:Int),()) rec=if ok s[k]then rec (s,((k+1:Nat):Int),())else no)(rZ:∀rec,body (s,(s.length:Int),()) rec=fin):bk.run body (s,0,())=if s.all ok then fin else no:=by
 have hm:=aT;refine(HA (fun k=>(s,(k:Int),())) s.length (fun k=>(s[k]?).bind fun b=>if ok b then none else some no) (fun k hk rec=>?_) (fin:=fin) rZ ?_ rfl).trans ?_
 ·rw[h k hk,cN hk,akj];by_cases hb:ok s[k]=true<;>simp[hb]
 ·have:=bw;omega
 ·rw[EL];clear h rZ hs;induction s with
  |nil=>rfl
  |cons b s ih=>
   simp only[akU,amK];by_cases hb:ok b=true
   ·simp only[hb,Ko,ak4];exact ih
   ·simp[hb]
theorem yM{B:Type}(p:Nat→Bool)(g:Nat→B):∀l:List Nat,l.findSome? (fun k=>if p k=true then some (g k)else none)=(l.find? p).map g
 |[]=>rfl
 |k::l=>by
  simp only[akU,List.find?_cons];cases h:p k with
  |true=>simp
  |false=>simpa using yM p g l
theorem sG{S R:Type}{body:S→(S→Option R)→Option R}(st:Nat→S)(i:Nat)(hit:Nat→Bool){no fin:Option R}(h:∀k,k<i→∀rec,body (st k) rec=if hit k=true then no else rec (st (k+1)))(rZ:∀rec,body (st i) rec=fin)(hi:i<rounds){s0:S}(h0:st 0=s0):bk.run body s0=if(List.range i).any hit=true then no else fin:=by
 refine(br st i (fun k=>if hit k=true then some no else none) (fun k hk rec=>?_) rZ hi h0).trans ?_
 ·grind [ca]
 ·have:∀l:List Nat,ca (l.findSome? fun k=>if hit k=true then some no else none) fin=if l.any hit=true then no else fin:=by
   intro l;induction l with
   |nil=>rfl
   |cons k l ih=>
    simp only[akU,al7];by_cases hh:hit k=true
    ·simp[hh,ca]
    simp_all
  exact this _
theorem R6{A:Type}[DecidableEq A](ids:List A)(i:Nat)(h:i≤ids.length)(x:A):(List.range i).any (fun k=>decide (ids[k]?=some x))=decide (x∈ids.take i):=by
 rw[ak9];simp only[als,akS,AT];constructor
 ·rintro⟨k,hk,hx⟩;exact akC.2 ⟨k,by grind⟩
 ·intro bW;obtain⟨k,hk⟩:=akC.1 bW;grind
theorem jE{A B:Type}(f:A→B)(l:List A)(k:Nat)(h:k<l.length):(l.map f).take (k+1)=(l.map f).take k++[f l[k]]:=by simp_all[akr]
theorem TR(f:Nat→Int)(n:Nat)(h:(cX f n).2=0):(cX f n).1=0:=by
 unfold cX at*;cases hf:(List.range n).findSome? (fun k=>if f k=0 then none else some ((k:Int),f k))with
 |none=>rfl
 |some x=>rw[hf]at h;obtain⟨k,_,hk⟩:=akM hf;grind
end Go.Ab.Tt
