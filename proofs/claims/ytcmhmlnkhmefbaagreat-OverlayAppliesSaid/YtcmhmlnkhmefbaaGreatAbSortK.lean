import Derived.Test.YtcmhmlnkhmefbaaGreatAbSort
set_option linter.unusedVariables false
namespace Go.Ab
def Xi:PV→Bool
 |.int _ _=>true
 |.bool _=>true
 |.str _=>true
 |_=>false
def vM(r:List PV):PV:=.agg r
def eC(ns:List (List PV)):List PV:=ns.map vM
structure jl(k:Nat)(na:List PV→PV→PV→Option PV)(ns Hw:List (List PV))(cf:List PV→List PV→Int):Prop where
 len:∀a∈ns,a.length=k
 RM:∀a∈ns,∀p∈a,Xi p=true
 perm:Hw.Perm ns
 reads:∀c:List (List PV),c.length=ns.length→(∀x∈c,x∈ns)→∀a∈ns,∀b∈ns,na (eC c) (vM a) (vM b)=some (.int .i64 (cf a b))
 irrefl:∀a∈ns,¬cf a a<0
 trans:∀a∈ns,∀b∈ns,∀c∈ns,cf a b<0→cf b c<0→cf a c<0
 total:∀a∈ns,∀b∈ns,¬cf a b<0→¬cf b a<0→a=b
 sorted:Hw.Pairwise fun a b=>¬cf b a<0
variable{na:List PV→PV→PV→Option PV}{ns:List (List PV)}
theorem jl.unique{k:Nat}{n1 n2:List (List PV)}{c1 c2:List PV→List PV→Int}(h1:jl k na ns n1 c1)(h2:jl k na ns n2 c2):n1=n2:=by
 have hc:∀a∈ns,∀b∈ns,c1 a b=c2 a b:=fun a ha b hb=>by have e1:=h1.reads ns rfl (fun _ h=>h) a ha b hb;have e2:=h2.reads ns rfl (fun _ h=>h) a ha b hb;rw[e1]at e2;simpa using e2
 refine List.Perm.eq_of_pairwise (le:=fun a b=>¬c1 b a<0) (fun a b ha hb h h'=>?_) h1.sorted ?_ (h1.perm.trans h2.perm.symm)
 ·exact h1.total a (h1.perm.mem_iff.1 ha) b (h2.perm.mem_iff.1 hb) h' h
 ·refine h2.sorted.imp_of_mem fun{a b}ha hb h=>?_;rw[hc b (h2.perm.mem_iff.1 hb) a (h2.perm.mem_iff.1 ha)];exact h
noncomputable def uc(k:Nat)(na:List PV→PV→PV→Option PV)(es:List PV):Option (List PV):= @dite _ (∃ns Hw,es=eC ns∧∃cf,jl k na ns Hw cf) (Classical.propDecidable _) (fun h=>some (eC (Classical.choose (Classical.choose_spec h)))) fun _=>none
theorem Ep{k:Nat}{es es':List PV}(h:uc k na es=some es'):∃ns Hw cf,es=eC ns∧es'=eC Hw∧jl k na ns Hw cf:=by
 unfold uc at h;split at h
 ·rename_i hh;obtain⟨e,cf,hf⟩:=Classical.choose_spec (Classical.choose_spec hh);simp only[Option.some.injEq]at h;exact⟨_,_,cf,e,h.symm,hf⟩
 ·cases h
theorem Er:∀{a b:List (List PV)},eC a=eC b→a=b
 |[],[],_=>rfl
 |[],_::_,h=>by simp[eC]at h
 |_::_,[],h=>by simp[eC]at h
 |x::a,y::b,h=>by simp only[eC,vM,List.map_cons,List.cons.injEq,PV.agg.injEq]at h;rw[h.1,Er h.2]
theorem PN{k:Nat}{Hw:List (List PV)}{cf:List PV→List PV→Int}(h:jl k na ns Hw cf):uc k na (eC ns)=some (eC Hw):=by
 have hh:∃n n',eC ns=eC n∧∃cf,jl k na n n' cf:=⟨ns,Hw,rfl,cf,h⟩;cases hs:uc k na (eC ns)with
 |none=>exfalso;unfold uc at hs;rw[dif_pos hh]at hs;cases hs
 |some es'=>obtain⟨n,n',c,e1,e2,hf⟩:=Ep hs;have e1:=Er e1;subst e1;subst e2;rw[hf.unique h]
noncomputable def vA(kk:Nat)(VI:FuncId→Option (List PV→Option PV)):(R:Type)→List V→Fr→Mem→(V→Fr→Mem→Option R)→Option R:=
 fun _ args f m k=>match args with
 |[.os id,.fn g mi]=>match m id with
  |some (.arr sz et es)=>match VI g with
   |some M=>if sz=kk∧es.length≤aa then(uc kk (fun c a b=>(oz (jt (au m id (.arr kk et c)) eF) mi).bind fun ps=>M (a::b::ps)) es).bind fun es'=>k (.aZ []) f (au m id (.arr kk et es'))else none
   |none=>none
  |_=>none
 |_=>none
end Go.Ab
