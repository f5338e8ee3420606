import Derived.Test.YtanikidijjaohaaGreatAbSort
set_option linter.unusedVariables false
set_option linter.unusedSimpArgs false
namespace Go.Ab
def Yk:PV→Bool
 |.int _ _=>true
 |.bool _=>true
 |.str _=>true
 |_=>false
def wT(r:List PV):PV:=.agg r
def eo(ns:List (List PV)):List PV:=ns.map wT
structure ke(k:Nat)(nW:List PV→PV→PV→Option PV)(ns I2:List (List PV))(cf:List PV→List PV→Int):Prop where
 len:∀a∈ns,a.length=k
 SZ:∀a∈ns,∀p∈a,Yk p=true
 perm:I2.Perm ns
 reads:∀c:List (List PV),c.length=ns.length→(∀x∈c,x∈ns)→∀a∈ns,∀b∈ns,nW (eo c) (wT a) (wT b)=some (.int .i64 (cf a b))
 irrefl:∀a∈ns,¬cf a a<0
 trans:∀a∈ns,∀b∈ns,∀c∈ns,cf a b<0→cf b c<0→cf a c<0
 total:∀a∈ns,∀b∈ns,¬cf a b<0→¬cf b a<0→a=b
 sorted:I2.Pairwise fun a b=>¬cf b a<0
variable{nW:List PV→PV→PV→Option PV}{ns:List (List PV)}
theorem ke.unique{k:Nat}{n1 n2:List (List PV)}{c1 c2:List PV→List PV→Int}(h1:ke k nW ns n1 c1)(h2:ke k nW ns n2 c2):n1=n2:=by
 have hc:∀a∈ns,∀b∈ns,c1 a b=c2 a b:=fun a ha b hb=>by have e1:=h1.reads ns rfl (fun _ h=>h) a ha b hb;have e2:=h2.reads ns rfl (fun _ h=>h) a ha b hb;rw[e1]at e2;simpa using e2
 refine ajo (le:=fun a b=>¬c1 b a<0) (fun a b ha hb h h'=>?_) h1.sorted ?_ (h1.perm.trans h2.perm.symm)
 ·exact h1.total a (h1.perm.mem_iff.1 ha) b (h2.perm.mem_iff.1 hb) h' h
 ·refine h2.sorted.imp_of_mem fun{a b}ha hb h=>?_;rw[hc b (h2.perm.mem_iff.1 hb) a (h2.perm.mem_iff.1 ha)];exact h
noncomputable def vi(k:Nat)(nW:List PV→PV→PV→Option PV)(es:List PV):Option (List PV):= @dite _ (∃ns I2,es=eo ns∧∃cf,ke k nW ns I2 cf) (Classical.propDecidable _) (fun h=>some (eo (Classical.choose (Classical.choose_spec h)))) fun _=>none
theorem FJ{k:Nat}{es es':List PV}(h:vi k nW es=some es'):∃ns I2 cf,es=eo ns∧es'=eo I2∧ke k nW ns I2 cf:=by
 unfold vi at h;split at h
 ·rename_i hh;obtain⟨e,cf,hf⟩:=Classical.choose_spec (Classical.choose_spec hh);simp only[AI]at h;exact⟨_,_,cf,e,h.symm,hf⟩
 ·cases h
theorem FK:∀{a b:List (List PV)},eo a=eo b→a=b
 |[],[],_=>rfl
 |[],_::_,h=>by simp[eo]at h
 |_::_,[],h=>by simp[eo]at h
 |x::a,y::b,h=>by simp only[eo,wT,agP,ahs,PV.agg.injEq]at h;rw[h.1,FK h.2]
theorem Rk{k:Nat}{I2:List (List PV)}{cf:List PV→List PV→Int}(h:ke k nW ns I2 cf):vi k nW (eo ns)=some (eo I2):=by
 have hh:∃n n',eo ns=eo n∧∃cf,ke k nW n n' cf:=⟨ns,I2,rfl,cf,h⟩;cases hs:vi k nW (eo ns)with
 |none=>exfalso;unfold vi at hs;rw[aj1 hh]at hs;cases hs
 |some es'=>obtain⟨n,n',c,e1,e2,hf⟩:=FJ hs;have e1:=FK e1;subst e1;subst e2;rw[hf.unique h]
noncomputable def wM(kk:Nat)(WA:FuncId→Option (List PV→Option PV)):(R:Type)→List V→Fr→Mem→(V→Fr→Mem→Option R)→Option R:=
 fun _ args f m k=>match args with
 |[.os id,.fn g caps]=>match m id with
  |some (.arr sz et es)=>match WA g with
   |some M=>if sz=kk∧es.length≤aj∧Nat.blt g Cj=true then(vi kk (fun c a b=>(pe (kn (al m id (.arr kk et c)) ez) caps).bind fun ps=>M (a::b::ps)) es).bind fun es'=>k (.bn []) f (al m id (.arr kk et es'))else none
   |none=>none
  |_=>none
 |_=>none
end Go.Ab
