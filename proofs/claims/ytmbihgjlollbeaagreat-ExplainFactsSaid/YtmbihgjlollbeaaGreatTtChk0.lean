import Derived.Test.YtmbihgjlollbeaaGreatTtData
import Derived.Test.YtmbihgjlollbeaaGreatAbLib
namespace Go.Ab.Tt
set_option linter.all false
theorem aJ(a b:Bool):(bif a then some b else some false)=some (a&&b):=by cases a<;>rfl
theorem ay(a b:Bool):(bif a then some true else some b)=some (a||b):=by cases a<;>rfl
theorem bX{A:Type}[DecidableEq A][BEq A][LawfulBEq A](a b:A):(a==b)=decide (a=b):=by grind
theorem eC{A:Type}[DecidableEq A][BEq A][LawfulBEq A](a b:A):(a !=b)= !decide (a=b):=by grind
section
variable {K:Type} [DecidableEq K]
def C0(a:K)(v:PV):List (K×PV)→List (K×PV)
 |[]=>[(a,v)]
 |(b,u)::r=>if a=b then(a,v)::r else(b,u)::C0 a v r
def yB(a:K)(z:PV):List (K×PV)→PV
 |[]=>z
 |(b,u)::r=>if a=b then u else yB a z r
def rI(key:K→PV)(m:List (K×PV)):List (PV×PV):=m.map fun x=>(key x.1,x.2)
theorem vM(a b:K)(v z:PV):∀m,yB a z (C0 b v m)=if a=b then v else yB a z m
 |[]=>rfl
 |(c,u)::r=>by
  simp only[C0];by_cases h:b=c
  ·simp_all[BY,yB]
  ·simp only[IT h,yB,vM a b v z r];grind
variable {key:K→PV} (hk:∀a b,cz (key a).cells (key b).cells=decide (a=b))
include hk
theorem Kf(a:K)(v:PV):∀m,dI (key a) v (rI key m)=rI key (C0 a v m)
 |[]=>rfl
 |(b,u)::r=>by
  simp only[rI,asn,dI,hk,C0];by_cases h:a=b
  ·simp[h]
  ·have:=Kf a v r;simp only[rI]at this;simp[h,this]
theorem G9(a:K)(z:PV):∀m,cB (key a) z (rI key m)=yB a z m
 |[]=>rfl
 |(b,u)::r=>by
  simp only[rI,asn,cB,hk,yB];by_cases h:a=b
  ·simp[h]
  ·have:=G9 a z r;simp only[rI]at this;simp[h,this]
omit hk
def O3(l:List K):List (K×PV):=l.foldl (fun m a=>C0 a (.bool true) m) []
def seen(key:K→PV)(l:List K):List (PV×PV):=rI key (O3 l)
theorem VQ(l:List K)(a:K):O3 (l++[a])=C0 a (.bool true) (O3 l):=by simp[O3]
theorem VR(a:K)(l:List K):yB a (.bool false) (O3 l)=.bool (decide (a∈l)):=by
 have key:∀(l:List K)(m:List (K×PV))(s:K→Bool),(∀a,yB a (.bool false) m=.bool (s a))→∀a,yB a (.bool false) (l.foldl (fun m a=>C0 a (.bool true) m) m)=.bool (decide (a∈l)||s a):=by
  intro l;induction l with
  |nil=>simp
  |cons b l ih=>intro m s h a;simp only[auw];rw[ih (C0 b (.bool true) m) (fun a=>decide (a=b)||s a) (fun a=>by grind [vM]) a];grind
 have:=key l [] (fun _=>false) (fun _=>rfl) a;simpa[O3]using this
include hk
theorem eX(a:K)(l:List K):cB (key a) (.bool false) (seen key l)=.bool (decide (a∈l)):=by rw[seen,G9 hk,VR]
theorem fV(a:K)(l:List K):dI (key a) (.bool true) (seen key l)=seen key (l++[a]):=by grind [seen,Kf,VQ]
end
theorem mS(a b:Bytes):cz (PV.str a).cells (PV.str b).cells=decide (a=b):=by simp[PV.cells,cz,peq,as7,bX]
theorem EG(a b:Int):cz (PV.int .i64 a).cells (PV.int .i64 b).cells=decide (a=b):=by simp[PV.cells,cz,peq,as7,bX]
variable{R:Type}
def bK(o:Option (Option R))(fin:Option R):Option R:=match o with|some r=>r|none=>fin
theorem aC{S:Type}{body:S→(S→Option R)→Option R}(st:Nat→S)(n:Nat)(bad:Nat→Option (Option R)){fin:Option R}(h:∀k,k<n→∀rec,body (st k) rec=bK (bad k) (rec (st (k+1))))(tQ:∀rec,body (st n) rec=fin)(hn:n<rounds){s0:S}(h0:st 0=s0):ba.run body s0=bK ((List.range n).findSome? bad) fin:=NP st n bad h tQ hn h0
def res(i e:Int):PV:=.aG [.int .i64 i,.int .i64 e]
def bV(f:Nat→Int)(n:Nat):Int×Int:=match(List.range n).findSome? (fun k=>if f k=0 then none else some ((k:Int),f k))with|some x=>x|none=>(0,0)
def Dx(k:Nat)(e:Int):Option (Option PV):=if e=0 then none else some (some (res k e))
theorem cW(f:Nat→Int)(n:Nat):bK ((List.range n).findSome? fun k=>Dx k (f k)) (some (res 0 0))=some (res (bV f n).1 (bV f n).2):=by
 unfold bV;have:(List.range n).findSome? (fun k=>Dx k (f k))=((List.range n).findSome? (fun k=>if f k=0 then none else some ((k:Int),f k))).map fun x=>some (res x.1 x.2):=by rw[auG];congr 1;funext k;grind [Dx]
 rw[this];cases(List.range n).findSome? (fun k=>if f k=0 then none else some ((k:Int),f k))<;>rfl
def kY(b:UInt8):Bool:=(decide (97≤(b.toNat:Int))&&decide ((b.toNat:Int)≤122))||(decide (65≤(b.toNat:Int))&&decide ((b.toNat:Int)≤90))||(decide (48≤(b.toNat:Int))&&decide ((b.toNat:Int)≤57))||decide ((b.toNat:Int)=45)||decide ((b.toNat:Int)=95)||decide ((b.toNat:Int)=46)
def eW(s:Bytes):Bool:=decide (1≤s.length)&&decide (s.length≤32)&&s.all kY
theorem Dp(s:Bytes)(k:Nat):QR s (k:Int)=s[k]?:=by rfl
theorem Mg{body:Bytes×Int×Unit→(Bytes×Int×Unit→Option R)→Option R}(s:Bytes)(hs:s.length≤maxLen)(ok:UInt8→Bool)(no fin:Option R)(h:∀k,(hk:k<s.length)→∀rec,body (s,(k:Int),()) rec=if ok s[k]then rec (s,((k+1:Nat):Int),())else no)(tQ:∀rec,body (s,(s.length:Int),()) rec=fin):ba.run body (s,0,())=if s.all ok then fin else no:=by
 have hm:=ai;refine(NP (fun k=>(s,(k:Int),())) s.length (fun k=>(s[k]?).bind fun b=>if ok b then none else some no) (fun k hk rec=>?_) (fin:=fin) tQ ?_ rfl).trans ?_
 ·rw[h k hk,cN hk,asl];by_cases hb:ok s[k]=true<;>simp[hb]
 ·have:=aw;omega
 ·rw[KH];clear h tQ hs;induction s with
  |nil=>rfl
  |cons b s ih=>
   simp only[asW,auW];by_cases hb:ok b=true
   ·simp only[hb,BY,asX];exact ih
   ·simp[hb]
theorem iu{B:Type}(p:Nat→Bool)(g:Nat→B):∀l:List Nat,l.findSome? (fun k=>if p k=true then some (g k)else none)=(l.find? p).map g
 |[]=>rfl
 |k::l=>by
  simp only[asW,aus];cases h:p k with
  |true=>simp
  |false=>simpa using iu p g l
def HM(ids:List Bytes)(s:Bytes):Int:=match(List.range ids.length).find? (fun k=>decide (ids[k]?=some s))with|some k=>(k:Int)|none=> -1
theorem ahS(ids:List Bytes)(k:Nat)(h:k<ids.length):HM ids ids[k]<(k:Int)↔ids[k]∈ids.take k:=by
 unfold HM;have hex:∃j,(List.range ids.length).find? (fun j=>decide (ids[j]?=some ids[k]))=some j:=by
  cases hf:(List.range ids.length).find? (fun j=>decide (ids[j]?=some ids[k]))with
  |some j=>simp
  |none=>rw[at6]at hf;have:=hf k (by simpa using h);simp_all
 obtain⟨j,hj⟩:=hex;rw[hj];simp only;rw[atG]at hj;obtain⟨h1,h2,h3⟩:=hj;simp only[cT]at h1;constructor
 ·intro cd;refine ast.2 ⟨j,?_⟩;simp_all
 ·intro bB;obtain⟨i,hi⟩:=ast.1 bB;grind
theorem dt{S R:Type}{body:S→(S→Option R)→Option R}(st:Nat→S)(i:Nat)(hit:Nat→Bool){no fin:Option R}(h:∀k,k<i→∀rec,body (st k) rec=if hit k=true then no else rec (st (k+1)))(tQ:∀rec,body (st i) rec=fin)(hi:i<rounds){s0:S}(h0:st 0=s0):ba.run body s0=if(List.range i).any hit=true then no else fin:=by
 refine(aC st i (fun k=>if hit k=true then some no else none) (fun k hk rec=>?_) tQ hi h0).trans ?_
 ·grind [bK]
 ·have:∀l:List Nat,bK (l.findSome? fun k=>if hit k=true then some no else none) fin=if l.any hit=true then no else fin:=by
   intro l;induction l with
   |nil=>rfl
   |cons k l ih=>
    simp only[asW,at5];by_cases hh:hit k=true
    ·simp[hh,bK]
    simp_all
  exact this _
theorem jf{A:Type}[DecidableEq A](ids:List A)(i:Nat)(h:i≤ids.length)(x:A):(List.range i).any (fun k=>decide (ids[k]?=some x))=decide (x∈ids.take i):=by
 rw[asL];simp only[atd,ata,cT];constructor
 ·rintro⟨k,hk,hx⟩;exact ast.2 ⟨k,by grind⟩
 ·intro bB;obtain⟨k,hk⟩:=ast.1 bB;grind
theorem kT{A B:Type}(f:A→B)(l:List A)(k:Nat)(h:k<l.length):(l.map f).take (k+1)=(l.map f).take k++[f l[k]]:=by simp_all[asm]
theorem ahT(ids:List Bytes)(s:Bytes):HM ids s≥0↔s∈ids:=by
 unfold HM;cases hf:(List.range ids.length).find? (fun j=>decide (ids[j]?=some s))with
 |some j=>grind
 |none=>rw[at6]at hf;refine⟨fun h=>absurd h (by simp),fun bB=>?_⟩;obtain⟨j,hj⟩:=ast.1 bB;grind
def Qu(e:Int):Option (Option PV):=if e=0 then none else some (some (.int .i64 e))
theorem Mm(f:Nat→Int)(n:Nat):bK ((List.range n).findSome? fun k=>Qu (f k)) (some (.int .i64 0))=some (.int .i64 (bV f n).2):=by
 unfold bV;have:(List.range n).findSome? (fun k=>Qu (f k))=((List.range n).findSome? (fun k=>if f k=0 then none else some ((k:Int),f k))).map fun x=>some (.int .i64 x.2):=by rw[auG];congr 1;funext k;grind [Qu]
 rw[this];cases(List.range n).findSome? (fun k=>if f k=0 then none else some ((k:Int),f k))<;>rfl
theorem aaZ(f:Nat→Int)(n:Nat)(h:(bV f n).2=0):(bV f n).1=0:=by
 unfold bV at*;cases hf:(List.range n).findSome? (fun k=>if f k=0 then none else some ((k:Int),f k))with
 |none=>rfl
 |some x=>rw[hf]at h;obtain⟨k,_,hk⟩:=asS hf;grind
end Go.Ab.Tt
