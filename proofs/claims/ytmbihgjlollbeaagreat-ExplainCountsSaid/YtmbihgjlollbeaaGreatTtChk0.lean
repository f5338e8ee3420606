import Derived.Test.YtmbihgjlollbeaaGreatTtData
import Derived.Test.YtmbihgjlollbeaaGreatAbLib
namespace Go.Ab.Tt
set_option linter.unusedVariables false
theorem bE(a b:Bool):(bif a then some b else some false)=some (a&&b):=by cases a<;>rfl
theorem bh(a b:Bool):(bif a then some true else some b)=some (a||b):=by cases a<;>rfl
theorem jw{A:Type}[DecidableEq A][BEq A][LawfulBEq A](a b:A):(a==b)=decide (a=b):=by grind
theorem pI{A:Type}[DecidableEq A][BEq A][LawfulBEq A](a b:A):(a !=b)= !decide (a=b):=by grind
section
variable {K:Type} [DecidableEq K]
def xp(a:K)(v:PV):List (K×PV)→List (K×PV)
 |[]=>[(a,v)]
 |(b,u)::r=>if a=b then(a,v)::r else(b,u)::xp a v r
def s7(a:K)(z:PV):List (K×PV)→PV
 |[]=>z
 |(b,u)::r=>if a=b then u else s7 a z r
def ow(key:K→PV)(m:List (K×PV)):List (PV×PV):=m.map fun x=>(key x.1,x.2)
theorem q7(a b:K)(v z:PV):∀m,s7 a z (xp b v m)=if a=b then v else s7 a z m
 |[]=>rfl
 |(c,u)::r=>by
  simp only[xp];by_cases h:b=c
  ·simp_all[IS,s7]
  ·simp only[No h,s7,q7 a b v z r];grind
variable {key:K→PV} (hk:∀a b,cz (key a).cells (key b).cells=decide (a=b))
include hk
theorem DU(a:K)(v:PV):∀m,df (key a) v (ow key m)=ow key (xp a v m)
 |[]=>rfl
 |(b,u)::r=>by
  simp only[ow,ajr,df,hk,xp];by_cases h:a=b
  ·simp[h]
  ·have:=DU a v r;simp only[ow]at this;simp[h,this]
theorem A1(a:K)(z:PV):∀m,b9 (key a) z (ow key m)=s7 a z m
 |[]=>rfl
 |(b,u)::r=>by
  simp only[ow,ajr,b9,hk,s7];by_cases h:a=b
  ·simp[h]
  ·have:=A1 a z r;simp only[ow]at this;simp[h,this]
omit hk
def Ik(l:List K):List (K×PV):=l.foldl (fun m a=>xp a (.bool true) m) []
def seen(key:K→PV)(l:List K):List (PV×PV):=ow key (Ik l)
theorem OO(l:List K)(a:K):Ik (l++[a])=xp a (.bool true) (Ik l):=by simp[Ik]
theorem OP(a:K)(l:List K):s7 a (.bool false) (Ik l)=.bool (decide (a∈l)):=by
 have key:∀(l:List K)(m:List (K×PV))(s:K→Bool),(∀a,s7 a (.bool false) m=.bool (s a))→∀a,s7 a (.bool false) (l.foldl (fun m a=>xp a (.bool true) m) m)=.bool (decide (a∈l)||s a):=by
  intro l;induction l with
  |nil=>simp
  |cons b l ih=>intro m s h a;simp only[alp];rw[ih (xp b (.bool true) m) (fun a=>decide (a=b)||s a) (fun a=>by grind [q7]) a];grind
 have:=key l [] (fun _=>false) (fun _=>rfl) a;simpa[Ik]using this
include hk
theorem eh(a:K)(l:List K):b9 (key a) (.bool false) (seen key l)=.bool (decide (a∈l)):=by rw[seen,A1 hk,OP]
theorem fi(a:K)(l:List K):df (key a) (.bool true) (seen key l)=seen key (l++[a]):=by grind [seen,DU,OO]
end
theorem kR(a b:Bytes):cz (PV.str a).cells (PV.str b).cells=decide (a=b):=by simp[PV.cells,cz,peq,akw,jw]
theorem yR(a b:Int):cz (PV.int .i64 a).cells (PV.int .i64 b).cells=decide (a=b):=by simp[PV.cells,cz,peq,akw,jw]
variable{R:Type}
def ca(o:Option (Option R))(fin:Option R):Option R:=match o with|some r=>r|none=>fin
theorem br{S:Type}{body:S→(S→Option R)→Option R}(st:Nat→S)(n:Nat)(bad:Nat→Option (Option R)){fin:Option R}(h:∀k,k<n→∀rec,body (st k) rec=ca (bad k) (rec (st (k+1))))(rr:∀rec,body (st n) rec=fin)(hn:n<rounds){s0:S}(h0:st 0=s0):bn.run body s0=ca ((List.range n).findSome? bad) fin:=Hc st n bad h rr hn h0
def res(i e:Int):PV:=.aP [.int .i64 i,.int .i64 e]
def cW(f:Nat→Int)(n:Nat):Int×Int:=match(List.range n).findSome? (fun k=>if f k=0 then none else some ((k:Int),f k))with|some x=>x|none=>(0,0)
def FY(k:Nat)(e:Int):Option (Option PV):=if e=0 then none else some (some (res k e))
theorem kz(f:Nat→Int)(n:Nat):ca ((List.range n).findSome? fun k=>FY k (f k)) (some (res 0 0))=some (res (cW f n).1 (cW f n).2):=by
 unfold cW;have:(List.range n).findSome? (fun k=>FY k (f k))=((List.range n).findSome? (fun k=>if f k=0 then none else some ((k:Int),f k))).map fun x=>some (res x.1 x.2):=by rw[List.map_findSome?];congr 1;funext k;grind [FY]
 rw[this];cases(List.range n).findSome? (fun k=>if f k=0 then none else some ((k:Int),f k))<;>rfl
def yO(b:UInt8):Bool:=(decide (97≤(b.toNat:Int))&&decide ((b.toNat:Int)≤122))||(decide (65≤(b.toNat:Int))&&decide ((b.toNat:Int)≤90))||(decide (48≤(b.toNat:Int))&&decide ((b.toNat:Int)≤57))||decide ((b.toNat:Int)=45)||decide ((b.toNat:Int)=95)||decide ((b.toNat:Int)=46)
def nM(s:Bytes):Bool:=decide (1≤s.length)&&decide (s.length≤32)&&s.all yO
theorem VV(s:Bytes)(k:Nat):Yt s (k:Int)=s[k]?:=by rfl
theorem Of{body:Bytes×Int×Unit→(Bytes×Int×Unit→Option R)→Option R}(s:Bytes)(hs:s.length≤maxLen)(ok:UInt8→Bool)(no fin:Option R)(h:∀k,(hk:k<s.length)→∀rec,body (s,(k:Int),()) rec=if ok s[k]then rec (s,((k+1:Nat):Int),())else no)(rr:∀rec,body (s,(s.length:Int),()) rec=fin):bn.run body (s,0,())=if s.all ok then fin else no:=by
 have hm:=aQ;refine(Hc (fun k=>(s,(k:Int),())) s.length (fun k=>(s[k]?).bind fun b=>if ok b then none else some no) (fun k hk rec=>?_) (fin:=fin) rr ?_ rfl).trans ?_
 ·rw[h k hk,cO hk,ajn];by_cases hb:ok s[k]=true<;>simp[hb]
 ·have:=bu;omega
 ·rw[El];clear h rr hs;induction s with
  |nil=>rfl
  |cons b s ih=>
   simp only[ajY,alQ];by_cases hb:ok b=true
   ·simp only[hb,IS,aj3];exact ih
   ·simp[hb]
theorem yf{B:Type}(p:Nat→Bool)(g:Nat→B):∀l:List Nat,l.findSome? (fun k=>if p k=true then some (g k)else none)=(l.find? p).map g
 |[]=>rfl
 |k::l=>by
  simp only[ajY,List.find?_cons];cases h:p k with
  |true=>simp
  |false=>simpa using yf p g l
theorem xr{S R:Type}{body:S→(S→Option R)→Option R}(st:Nat→S)(i:Nat)(hit:Nat→Bool){no fin:Option R}(h:∀k,k<i→∀rec,body (st k) rec=if hit k=true then no else rec (st (k+1)))(rr:∀rec,body (st i) rec=fin)(hi:i<rounds){s0:S}(h0:st 0=s0):bn.run body s0=if(List.range i).any hit=true then no else fin:=by
 refine(br st i (fun k=>if hit k=true then some no else none) (fun k hk rec=>?_) rr hi h0).trans ?_
 ·grind [ca]
 ·have:∀l:List Nat,ca (l.findSome? fun k=>if hit k=true then some no else none) fin=if l.any hit=true then no else fin:=by
   intro l;induction l with
   |nil=>rfl
   |cons k l ih=>
    simp only[ajY,alb];by_cases hh:hit k=true
    ·simp[hh,ca]
    simp_all
  exact this _
theorem Q1{A:Type}[DecidableEq A](ids:List A)(i:Nat)(h:i≤ids.length)(x:A):(List.range i).any (fun k=>decide (ids[k]?=some x))=decide (x∈ids.take i):=by
 rw[akh];simp only[akB,aj5,AT];constructor
 ·rintro⟨k,hk,hx⟩;exact ajH.2 ⟨k,by grind⟩
 ·intro bX;obtain⟨k,hk⟩:=ajH.1 bX;grind
theorem jz{A B:Type}(f:A→B)(l:List A)(k:Nat)(h:k<l.length):(l.map f).take (k+1)=(l.map f).take k++[f l[k]]:=by simp_all[ajq]
theorem SI(f:Nat→Int)(n:Nat)(h:(cW f n).2=0):(cW f n).1=0:=by
 unfold cW at*;cases hf:(List.range n).findSome? (fun k=>if f k=0 then none else some ((k:Int),f k))with
 |none=>rfl
 |some x=>rw[hf]at h;obtain⟨k,_,hk⟩:=ajS hf;grind
end Go.Ab.Tt
