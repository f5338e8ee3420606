import Derived.Test.YtanikidijjaohaaGreatTtData
import Derived.Test.YtanikidijjaohaaGreatAbLib
namespace Go.Ab.Tt
set_option linter.unusedVariables false
theorem aY(a b:Bool):(bif a then some b else some false)=some (a&&b):=by cases a<;>rfl
theorem aZ(a b:Bool):(bif a then some true else some b)=some (a||b):=by cases a<;>rfl
theorem fR{A:Type}[DecidableEq A][BEq A][LawfulBEq A](a b:A):(a==b)=decide (a=b):=by rw[agV];simp
theorem oZ{A:Type}[DecidableEq A][BEq A][LawfulBEq A](a b:A):(a !=b)= !decide (a=b):=by rw[agV];simp
section
variable {K:Type} [DecidableEq K]
def yC(a:K)(v:PV):List (K×PV)→List (K×PV)
 |[]=>[(a,v)]
 |(b,u)::r=>if a=b then(a,v)::r else(b,u)::yC a v r
def vV(a:K)(z:PV):List (K×PV)→PV
 |[]=>z
 |(b,u)::r=>if a=b then u else vV a z r
def uu(key:K→PV)(m:List (K×PV)):List (PV×PV):=m.map fun x=>(key x.1,x.2)
theorem AH(a b:K)(v z:PV):∀m,vV a z (yC b v m)=if a=b then v else vV a z m
 |[]=>rfl
 |(c,u)::r=>by
  simp only[yC];by_cases h:b=c
  ·subst h;simp only[T1,vV];by_cases h2:a=b<;>simp[h2]
  ·simp only[IN h,vV,AH a b v z r];by_cases h2:a=c
   ·subst h2;simp[Ne.symm h]
   ·simp[h2]
variable {key:K→PV} (hk:∀a b,dF (key a).cells (key b).cells=decide (a=b))
include hk
theorem HA(a:K)(v:PV):∀m,eG (key a) v (uu key m)=uu key (yC a v m)
 |[]=>rfl
 |(b,u)::r=>by
  simp only[uu,agP,eG,hk,yC];by_cases h:a=b
  ·simp[h]
  ·have:=HA a v r;simp only[uu]at this;simp[h,this]
theorem Eb(a:K)(z:PV):∀m,dD (key a) z (uu key m)=vV a z m
 |[]=>rfl
 |(b,u)::r=>by
  simp only[uu,agP,dD,hk,vV];by_cases h:a=b
  ·simp[h]
  ·have:=Eb a z r;simp only[uu]at this;simp[h,this]
omit hk
def Gw(l:List K):List (K×PV):=l.foldl (fun m a=>yC a (.bool true) m) []
def seen(key:K→PV)(l:List K):List (PV×PV):=uu key (Gw l)
theorem O8(l:List K)(a:K):Gw (l++[a])=yC a (.bool true) (Gw l):=by simp[Gw]
theorem O9(a:K)(l:List K):vV a (.bool false) (Gw l)=.bool (decide (a∈l)):=by
 have key:∀(l:List K)(m:List (K×PV))(s:K→Bool),(∀a,vV a (.bool false) m=.bool (s a))→∀a,vV a (.bool false) (l.foldl (fun m a=>yC a (.bool true) m) m)=.bool (decide (a∈l)||s a):=by
  intro l;induction l with
  |nil=>intro m s h a;simp[h a]
  |cons b l ih=>
   intro m s h a;simp only[ajH];rw[ih (yC b (.bool true) m) (fun a=>decide (a=b)||s a) (fun a=>by
    rw[AH];by_cases sl:a=b
    ·simp[sl]
    ·simp[sl,h a]) a]
   simp only[PV.bool.injEq,afh,Bool.decide_or];cases decide (a∈l)<;>cases decide (a=b)<;>rfl
 have:=key l [] (fun _=>false) (fun _=>rfl) a;simpa[Gw]using this
include hk
theorem lP(a:K)(l:List K):dD (key a) (.bool false) (seen key l)=.bool (decide (a∈l)):=by rw[seen,Eb hk,O9]
theorem od(a:K)(l:List K):eG (key a) (.bool true) (seen key l)=seen key (l++[a]):=by rw[seen,HA hk,seen,O8]
end
theorem wP(a b:Bytes):dF (PV.str a).cells (PV.str b).cells=decide (a=b):=by simp only[PV.cells,dF,peq,ahY,fR]
theorem zu(a b:Int):dF (PV.int .i64 a).cells (PV.int .i64 b).cells=decide (a=b):=by simp only[PV.cells,dF,peq,ahY,fR]
variable{R:Type}
def fS(o:Option (Option R))(fin:Option R):Option R:=match o with|some r=>r|none=>fin
theorem bL{S:Type}{body:S→(S→Option R)→Option R}(st:Nat→S)(n:Nat)(bad:Nat→Option (Option R)){fin:Option R}(h:∀k,k<n→∀rec,body (st k) rec=fS (bad k) (rec (st (k+1))))(mZ:∀rec,body (st n) rec=fin)(hn:n<rounds){s0:S}(h0:st 0=s0):bx.run body s0=fS ((List.range n).findSome? bad) fin:=E3 st n bad h mZ hn h0
def res(i e:Int):PV:=.bn [.int .i64 i,.int .i64 e]
def bN(f:Nat→Int)(n:Nat):Int×Int:=match(List.range n).findSome? (fun k=>if f k=0 then none else some ((k:Int),f k))with|some x=>x|none=>(0,0)
def JF(k:Nat)(e:Int):Option (Option PV):=if e=0 then none else some (some (res k e))
theorem oc(f:Nat→Int)(n:Nat):fS ((List.range n).findSome? fun k=>JF k (f k)) (some (res 0 0))=some (res (bN f n).1 (bN f n).2):=by
 unfold bN;have:(List.range n).findSome? (fun k=>JF k (f k))=((List.range n).findSome? (fun k=>if f k=0 then none else some ((k:Int),f k))).map fun x=>some (res x.1 x.2):=by rw[ai9];congr 1;funext k;unfold JF;by_cases h:f k=0<;>simp[h]
 rw[this];cases(List.range n).findSome? (fun k=>if f k=0 then none else some ((k:Int),f k))<;>rfl
def lO(b:UInt8):Bool:=(decide (97≤(b.toNat:Int))&&decide ((b.toNat:Int)≤122))||(decide (65≤(b.toNat:Int))&&decide ((b.toNat:Int)≤90))||(decide (48≤(b.toNat:Int))&&decide ((b.toNat:Int)≤57))||decide ((b.toNat:Int)=45)||decide ((b.toNat:Int)=95)||decide ((b.toNat:Int)=46)
def jY(s:Bytes):Bool:=decide (1≤s.length)&&decide (s.length≤32)&&s.all lO
theorem Jz(s:Bytes)(k:Nat):Qx s (k:Int)=s[k]?:=by simp[Qx]
theorem D4{body:Bytes×Int×Unit→(Bytes×Int×Unit→Option R)→Option R}(s:Bytes)(hs:s.length≤maxLen)(ok:UInt8→Bool)(no fin:Option R)(h:∀k,(hk:k<s.length)→∀rec,body (s,(k:Int),()) rec=if ok s[k]then rec (s,((k+1:Nat):Int),())else no)(mZ:∀rec,body (s,(s.length:Int),()) rec=fin):bx.run body (s,0,())=if s.all ok then fin else no:=by
 have hm:=bf;refine(E3 (fun k=>(s,(k:Int),())) s.length (fun k=>(s[k]?).bind fun b=>if ok b then none else some no) (fun k hk rec=>?_) (fin:=fin) mZ ?_ rfl).trans ?_
 ·rw[h k hk,AS hk,agO];by_cases hb:ok s[k]=true<;>simp[hb]
 ·have:=bk;omega
 ·rw[Lh];clear h mZ hs;induction s with
  |nil=>rfl
  |cons b s ih=>
   simp only[ahU,aiZ];by_cases hb:ok b=true
   ·simp only[hb,T1,ahW];exact ih
   ·simp[hb]
theorem BA{B:Type}(p:Nat→Bool)(g:Nat→B):∀l:List Nat,l.findSome? (fun k=>if p k=true then some (g k)else none)=(l.find? p).map g
 |[]=>rfl
 |k::l=>by
  simp only[ahU,List.find?_cons];cases h:p k with
  |true=>simp
  |false=>simpa using BA p g l
theorem sZ{S R:Type}{body:S→(S→Option R)→Option R}(st:Nat→S)(i:Nat)(BL:Nat→Bool){no fin:Option R}(h:∀k,k<i→∀rec,body (st k) rec=if BL k=true then no else rec (st (k+1)))(mZ:∀rec,body (st i) rec=fin)(hi:i<rounds){s0:S}(h0:st 0=s0):bx.run body s0=if(List.range i).any BL=true then no else fin:=by
 refine(bL st i (fun k=>if BL k=true then some no else none) (fun k hk rec=>?_) mZ hi h0).trans ?_
 ·rw[h k hk];by_cases hh:BL k=true<;>simp[hh,fS]
 ·have:∀l:List Nat,fS (l.findSome? fun k=>if BL k=true then some no else none) fin=if l.any BL=true then no else fin:=by
   intro l;induction l with
   |nil=>rfl
   |cons k l ih=>
    simp only[ahU,ahG];by_cases hh:BL k=true
    ·simp[hh,fS]
    ·simp only[hh,ahA,Xq];exact ih
  exact this _
theorem Cc{A:Type}[DecidableEq A](ids:List A)(i:Nat)(h:i≤ids.length)(x:A):(List.range i).any (fun k=>decide (ids[k]?=some x))=decide (x∈ids.take i):=by
 rw[agV];simp only[aip,aib,No];constructor
 ·rintro⟨k,hk,hx⟩;exact ahn.2 ⟨k,by rw[ahh hk];exact hx⟩
 ·intro bR;obtain⟨k,hk⟩:=ahn.1 bR;have Wc:k<i:=by have:=(HO.1 hk).1;simp at this;omega
  exact⟨k,Wc,by rw[ahh Wc]at hk;exact hk⟩
theorem qG{A B:Type}(f:A→B)(l:List A)(k:Nat)(h:k<l.length):(l.map f).take (k+1)=(l.map f).take k++[f l[k]]:=by rw[ag0 (by simpa using h)];simp
def H4(e:Int):Option (Option PV):=if e=0 then none else some (some (.int .i64 e))
theorem NU(f:Nat→Int)(n:Nat):fS ((List.range n).findSome? fun k=>H4 (f k)) (some (.int .i64 0))=some (.int .i64 (bN f n).2):=by
 unfold bN;have:(List.range n).findSome? (fun k=>H4 (f k))=((List.range n).findSome? (fun k=>if f k=0 then none else some ((k:Int),f k))).map fun x=>some (.int .i64 x.2):=by rw[ai9];congr 1;funext k;unfold H4;by_cases h:f k=0<;>simp[h]
 rw[this];cases(List.range n).findSome? (fun k=>if f k=0 then none else some ((k:Int),f k))<;>rfl
theorem RL(f:Nat→Int)(n:Nat)(h:(bN f n).2=0):(bN f n).1=0:=by
 unfold bN at*;cases hf:(List.range n).findSome? (fun k=>if f k=0 then none else some ((k:Int),f k))with
 |none=>rfl
 |some x=>
  rw[hf]at h;obtain⟨k,_,hk⟩:=ahN hf;by_cases h0:f k=0
  ·rw[BY h0]at hk;cases hk
  ·rw[IN h0]at hk;simp only[AI]at hk;subst hk;exact absurd h h0
end Go.Ab.Tt
