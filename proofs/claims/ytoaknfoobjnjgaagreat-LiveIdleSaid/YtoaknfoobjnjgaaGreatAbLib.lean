import Derived.Test.YtoaknfoobjnjgaaGreatAbSeat
import Derived.IntWalk
set_option linter.all false
namespace Go.Ab
theorem U{A B:Type}(a:A)(f:A→Option B):(some a).bind f=f a:=by
 have h:∀o:Option A,o=some a→o.bind f=f a:=fun o ho=>by subst ho;rfl
 exact h _ rfl
variable{S R:Type}
theorem lv(body:S→(S→Option R)→Option R)(s:S):bd.run body s=bX body rounds s:=rfl
theorem Xk{body:S→(S→Option R)→Option R}(st:Nat→S)(n:Nat){r:Option R}(q7:∀k,k<n→∀rec,body (st k) rec=rec (st (k+1)))(lZ:∀rec,body (st n) rec=r):∀(j N:Nat),j≤n→n<N+j→bX body N (st j)=r:=by
 intro j N;induction N generalizing j with
 |zero=>intro h1 h2;omega
 |succ N ih=>
  intro h1 h2;simp only[bX];by_cases h:j=n
  ·subst h;exact lZ _
  ·rw[q7 j (by omega)];exact ih (j+1) (by omega) (by omega)
theorem bh{body:S→(S→Option R)→Option R}(st:Nat→S)(n:Nat){r:Option R}(q7:∀k,k<n→∀rec,body (st k) rec=rec (st (k+1)))(lZ:∀rec,body (st n) rec=r)(hn:n<rounds){s0:S}(h0:st 0=s0):bd.run body s0=r:=by rw[←h0];exact Xk st n q7 lZ 0 rounds (by omega) (by omega)
theorem af(es:List PV)(k:Nat):yB es (k:Int)=es[k]?:=by simp[yB]
theorem bp{x:Int}(h1: -9223372036854775808≤x)(h2:x≤9223372036854775807):IntKind.i64.wrap x=x:=IntWalk.i64_in _ ⟨h1,h2⟩
theorem ah{k:Nat}(h:k<9223372036854775807):IntKind.i64.wrap ((k:Int)+1)=((k+1:Nat):Int):=by rw[bp (by omega) (by omega)];omega
theorem aL:maxLen≤9223372036854775807:=by decide
theorem aN:maxLen+1<rounds:=by decide
theorem JK{body:S→(S→Option R)→Option R}(st:Nat→S)(n:Nat)(bad:Nat→Option (Option R)){fin:Option R}(h:∀k,k<n→∀rec,body (st k) rec=match bad k with|some r=>r|none=>rec (st (k+1)))(lZ:∀rec,body (st n) rec=fin)(hn:n<rounds){s0:S}(h0:st 0=s0):bd.run body s0=match(List.range n).findSome? bad with|some r=>r|none=>fin:=by
 have key:∀(m j N:Nat),j+m=n→m<N→bX body N (st j)=match(List.range' j m).findSome? bad with|some r=>r|none=>fin:=by
  intro m;induction m with
  |zero=>
   intro j N hj hN;cases N with
   |zero=>omega
   |succ N=>
    simp only[bX,List.range'_zero,ap7];have:j=n:=by omega
    subst this;exact lZ _
  |succ m ih=>
   intro j N hj hN;cases N with
   |zero=>omega
   |succ N=>
    simp only[bX,apA,aou];rw[h j (by omega)];cases hb:bad j with
    |some r=>rfl
    |none=>exact ih (j+1) N (by omega) (by omega)
 rw[←h0,lv,key n 0 rounds (by omega) hn,apv]
theorem GJ{A B:Type}(f:A→Option B):∀(l:List A),(List.range l.length).findSome? (fun k=>(l[k]?).bind f)=l.findSome? f:=by
 have key:∀(l pre:List A),(List.range' pre.length l.length).findSome? (fun k=>((pre++l)[k]?).bind f)=l.findSome? f:=by
  intro l;induction l with
  |nil=>intro pre;rfl
  |cons x l ih=>
   intro pre;simp only[alx,apA,aou];have h1:(pre++x::l)[pre.length]?=some x:=by simp
   rw[h1];simp only[anC];cases f x with
   |some b=>rfl
   |none=>have:=ih (pre++[x]);simpa using this
 intro l;have:=key l [];rw[apv];simpa using this
end Go.Ab
