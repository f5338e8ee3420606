import Derived.Test.YtcmhmlnkhmefbaaAbSort
set_option linter.unusedVariables false
namespace Go.Ab
def RV:PV→Bool
 |.int _ _=>true
 |.bool _=>true
 |.str _=>true
 |_=>false
def sy(r:List PV):PV:=.agg r
def ez(ns:List (List PV)):List PV:=ns.map sy
structure ir(k:Nat)(lr:List PV→PV→PV→Option PV)(ns Eg:List (List PV))(cf:List PV→List PV→Int):Prop where
 len:∀a∈ns,a.length=k
 MN:∀a∈ns,∀p∈a,RV p=true
 perm:Eg.Perm ns
 reads:∀c:List (List PV),c.length=ns.length→(∀x∈c,x∈ns)→∀a∈ns,∀b∈ns,lr (ez c) (sy a) (sy b)=some (.int .i64 (cf a b))
 irrefl:∀a∈ns,¬cf a a<0
 trans:∀a∈ns,∀b∈ns,∀c∈ns,cf a b<0→cf b c<0→cf a c<0
 total:∀a∈ns,∀b∈ns,¬cf a b<0→¬cf b a<0→a=b
 sorted:Eg.Pairwise fun a b=>¬cf b a<0
variable{lr:List PV→PV→PV→Option PV}{ns:List (List PV)}
theorem ir.unique{k:Nat}{n1 n2:List (List PV)}{c1 c2:List PV→List PV→Int}(h1:ir k lr ns n1 c1)(h2:ir k lr ns n2 c2):n1=n2:=by
 have hc:∀a∈ns,∀b∈ns,c1 a b=c2 a b:=fun a ha b hb=>by have e1:=h1.reads ns rfl (fun _ h=>h) a ha b hb;have e2:=h2.reads ns rfl (fun _ h=>h) a ha b hb;rw[e1]at e2;simpa using e2
 refine List.Perm.eq_of_pairwise (le:=fun a b=>¬c1 b a<0) (fun a b ha hb h h'=>?_) h1.sorted ?_ (h1.perm.trans h2.perm.symm)
 ·exact h1.total a (h1.perm.mem_iff.1 ha) b (h2.perm.mem_iff.1 hb) h' h
 ·refine h2.sorted.imp_of_mem fun{a b}ha hb h=>?_;rw[hc b (h2.perm.mem_iff.1 hb) a (h2.perm.mem_iff.1 ha)];exact h
noncomputable def re(k:Nat)(lr:List PV→PV→PV→Option PV)(es:List PV):Option (List PV):= @dite _ (∃ns Eg,es=ez ns∧∃cf,ir k lr ns Eg cf) (Classical.propDecidable _) (fun h=>some (ez (Classical.choose (Classical.choose_spec h)))) fun _=>none
theorem Bt{k:Nat}{es es':List PV}(h:re k lr es=some es'):∃ns Eg cf,es=ez ns∧es'=ez Eg∧ir k lr ns Eg cf:=by
 unfold re at h;split at h
 ·rename_i hh;obtain⟨e,cf,hf⟩:=Classical.choose_spec (Classical.choose_spec hh);simp only[Option.some.injEq]at h;exact⟨_,_,cf,e,h.symm,hf⟩
 ·cases h
theorem Bu:∀{a b:List (List PV)},ez a=ez b→a=b
 |[],[],_=>rfl
 |[],_::_,h=>by simp[ez]at h
 |_::_,[],h=>by simp[ez]at h
 |x::a,y::b,h=>by simp only[ez,sy,List.map_cons,List.cons.injEq,PV.agg.injEq]at h;rw[h.1,Bu h.2]
theorem K1{k:Nat}{Eg:List (List PV)}{cf:List PV→List PV→Int}(h:ir k lr ns Eg cf):re k lr (ez ns)=some (ez Eg):=by
 have hh:∃n n',ez ns=ez n∧∃cf,ir k lr n n' cf:=⟨ns,Eg,rfl,cf,h⟩;cases hs:re k lr (ez ns)with
 |none=>exfalso;unfold re at hs;rw[dif_pos hh]at hs;cases hs
 |some es'=>obtain⟨n,n',c,e1,e2,hf⟩:=Bt hs;have e1:=Bu e1;subst e1;subst e2;rw[hf.unique h]
noncomputable def si(kk:Nat)(Qy:FuncId→Option (List PV→Option PV)):(R:Type)→List V→Fr→Mem→(V→Fr→Mem→Option R)→Option R:=
 fun _ args f m k=>match args with
 |[.os id,.fn g caps]=>match m id with
  |some (.arr sz et es)=>match Qy g with
   |some M=>if sz=kk∧es.length≤aa∧Nat.blt g xq=true then(re kk (fun c a b=>(lT (iB (ai m id (.arr kk et c)) ek) caps).bind fun ps=>M (a::b::ps)) es).bind fun es'=>k (.bA []) f (ai m id (.arr kk et es'))else none
   |none=>none
  |_=>none
 |_=>none
end Go.Ab
