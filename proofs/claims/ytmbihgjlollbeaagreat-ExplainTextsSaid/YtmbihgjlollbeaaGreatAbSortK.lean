import Derived.Test.YtmbihgjlollbeaaGreatAbSort
set_option linter.unusedVariables false
set_option linter.unusedSimpArgs false
namespace Go.Ab
def Zn:PV→Bool
 |.int _ _=>true
 |.bool _=>true
 |.str _=>true
 |_=>false
def xg(r:List PV):PV:=.agg r
def eh(ns:List (List PV)):List PV:=ns.map xg
structure jE(k:Nat)(nO:List PV→PV→PV→Option PV)(ns Ki:List (List PV))(cf:List PV→List PV→Int):Prop where
 len:∀a∈ns,a.length=k
 Up:∀a∈ns,∀p∈a,Zn p=true
 perm:Ki.Perm ns
 reads:∀c:List (List PV),c.length=ns.length→(∀x∈c,x∈ns)→∀a∈ns,∀b∈ns,nO (eh c) (xg a) (xg b)=some (.int .i64 (cf a b))
 irrefl:∀a∈ns,¬cf a a<0
 trans:∀a∈ns,∀b∈ns,∀c∈ns,cf a b<0→cf b c<0→cf a c<0
 total:∀a∈ns,∀b∈ns,¬cf a b<0→¬cf b a<0→a=b
 sorted:Ki.Pairwise fun a b=>¬cf b a<0
variable{nO:List PV→PV→PV→Option PV}{ns:List (List PV)}
theorem jE.unique{k:Nat}{n1 n2:List (List PV)}{c1 c2:List PV→List PV→Int}(h1:jE k nO ns n1 c1)(h2:jE k nO ns n2 c2):n1=n2:=by
 have hc:∀a∈ns,∀b∈ns,c1 a b=c2 a b:=fun a ha b hb=>by have e1:=h1.reads ns rfl (fun _ h=>h) a ha b hb;have e2:=h2.reads ns rfl (fun _ h=>h) a ha b hb;rw[e1]at e2;simpa using e2
 refine akW (le:=fun a b=>¬c1 b a<0) (fun a b ha hb h h'=>?_) h1.sorted ?_ (h1.perm.trans h2.perm.symm)
 ·exact h1.total a (h1.perm.mem_iff.1 ha) b (h2.perm.mem_iff.1 hb) h' h
 ·refine h2.sorted.imp_of_mem fun{a b}ha hb h=>?_;rw[hc b (h2.perm.mem_iff.1 hb) a (h2.perm.mem_iff.1 ha)];exact h
noncomputable def vQ(k:Nat)(nO:List PV→PV→PV→Option PV)(es:List PV):Option (List PV):= @dite _ (∃ns Ki,es=eh ns∧∃cf,jE k nO ns Ki cf) (Classical.propDecidable _) (fun h=>some (eh (Classical.choose (Classical.choose_spec h)))) fun _=>none
theorem Gm{k:Nat}{es es':List PV}(h:vQ k nO es=some es'):∃ns Ki cf,es=eh ns∧es'=eh Ki∧jE k nO ns Ki cf:=by
 unfold vQ at h;split at h
 ·rename_i hh;obtain⟨e,cf,hf⟩:=Classical.choose_spec (Classical.choose_spec hh);simp only[cN]at h;exact⟨_,_,cf,e,h.symm,hf⟩
 ·cases h
theorem Gn:∀{a b:List (List PV)},eh a=eh b→a=b
 |[],[],_=>rfl
 |[],_::_,h=>by simp[eh]at h
 |_::_,[],h=>by simp[eh]at h
 |x::a,y::b,h=>by simp only[eh,xg,aiL,ajl,PV.agg.injEq]at h;rw[h.1,Gn h.2]
theorem Sy{k:Nat}{Ki:List (List PV)}{cf:List PV→List PV→Int}(h:jE k nO ns Ki cf):vQ k nO (eh ns)=some (eh Ki):=by
 have hh:∃n n',eh ns=eh n∧∃cf,jE k nO n n' cf:=⟨ns,Ki,rfl,cf,h⟩;cases hs:vQ k nO (eh ns)with
 |none=>exfalso;unfold vQ at hs;rw[alB hh]at hs;cases hs
 |some es'=>obtain⟨n,n',c,e1,e2,hf⟩:=Gm hs;have e1:=Gn e1;subst e1;subst e2;rw[hf.unique h]
noncomputable def wY(kk:Nat)(XN:FuncId→Option (List PV→Option PV)):(R:Type)→List V→Fr→Mem→(V→Fr→Mem→Option R)→Option R:=
 fun _ args f m k=>match args with
 |[.os id,.fn g caps]=>match m id with
  |some (.arr sz et es)=>match XN g with
   |some M=>if sz=kk∧es.length≤ar∧Nat.blt g CY=true then(vQ kk (fun c a b=>(oY (jK (al m id (.arr kk et c)) ev) caps).bind fun ps=>M (a::b::ps)) es).bind fun es'=>k (.aP []) f (al m id (.arr kk et es'))else none
   |none=>none
  |_=>none
 |_=>none
end Go.Ab
