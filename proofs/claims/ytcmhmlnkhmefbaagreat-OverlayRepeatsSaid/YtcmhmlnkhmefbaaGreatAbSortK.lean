import Derived.Test.YtcmhmlnkhmefbaaGreatAbSort
set_option linter.unusedVariables false
namespace Go.Ab
def VS:PV→Bool
 |.int _ _=>true
 |.bool _=>true
 |.str _=>true
 |_=>false
def vi(r:List PV):PV:=.agg r
def eD(ns:List (List PV)):List PV:=ns.map vi
structure jf(k:Nat)(mI:List PV→PV→PV→Option PV)(ns GQ:List (List PV))(cf:List PV→List PV→Int):Prop where
 len:∀a∈ns,a.length=k
 QD:∀a∈ns,∀p∈a,VS p=true
 perm:GQ.Perm ns
 reads:∀c:List (List PV),c.length=ns.length→(∀x∈c,x∈ns)→∀a∈ns,∀b∈ns,mI (eD c) (vi a) (vi b)=some (.int .i64 (cf a b))
 irrefl:∀a∈ns,¬cf a a<0
 trans:∀a∈ns,∀b∈ns,∀c∈ns,cf a b<0→cf b c<0→cf a c<0
 total:∀a∈ns,∀b∈ns,¬cf a b<0→¬cf b a<0→a=b
 sorted:GQ.Pairwise fun a b=>¬cf b a<0
variable{mI:List PV→PV→PV→Option PV}{ns:List (List PV)}
theorem jf.unique{k:Nat}{n1 n2:List (List PV)}{c1 c2:List PV→List PV→Int}(h1:jf k mI ns n1 c1)(h2:jf k mI ns n2 c2):n1=n2:=by
 have hc:∀a∈ns,∀b∈ns,c1 a b=c2 a b:=fun a ha b hb=>by have e1:=h1.reads ns rfl (fun _ h=>h) a ha b hb;have e2:=h2.reads ns rfl (fun _ h=>h) a ha b hb;rw[e1]at e2;simpa using e2
 refine List.Perm.eq_of_pairwise (le:=fun a b=>¬c1 b a<0) (fun a b ha hb h h'=>?_) h1.sorted ?_ (h1.perm.trans h2.perm.symm)
 ·exact h1.total a (h1.perm.mem_iff.1 ha) b (h2.perm.mem_iff.1 hb) h' h
 ·refine h2.sorted.imp_of_mem fun{a b}ha hb h=>?_;rw[hc b (h2.perm.mem_iff.1 hb) a (h2.perm.mem_iff.1 ha)];exact h
noncomputable def tM(k:Nat)(mI:List PV→PV→PV→Option PV)(es:List PV):Option (List PV):= @dite _ (∃ns GQ,es=eD ns∧∃cf,jf k mI ns GQ cf) (Classical.propDecidable _) (fun h=>some (eD (Classical.choose (Classical.choose_spec h)))) fun _=>none
theorem DJ{k:Nat}{es es':List PV}(h:tM k mI es=some es'):∃ns GQ cf,es=eD ns∧es'=eD GQ∧jf k mI ns GQ cf:=by
 unfold tM at h;split at h
 ·rename_i hh;obtain⟨e,cf,hf⟩:=Classical.choose_spec (Classical.choose_spec hh);simp only[Option.some.injEq]at h;exact⟨_,_,cf,e,h.symm,hf⟩
 ·cases h
theorem DK:∀{a b:List (List PV)},eD a=eD b→a=b
 |[],[],_=>rfl
 |[],_::_,h=>by simp[eD]at h
 |_::_,[],h=>by simp[eD]at h
 |x::a,y::b,h=>by simp only[eD,vi,List.map_cons,List.cons.injEq,PV.agg.injEq]at h;rw[h.1,DK h.2]
theorem OD{k:Nat}{GQ:List (List PV)}{cf:List PV→List PV→Int}(h:jf k mI ns GQ cf):tM k mI (eD ns)=some (eD GQ):=by
 have hh:∃n n',eD ns=eD n∧∃cf,jf k mI n n' cf:=⟨ns,GQ,rfl,cf,h⟩;cases hs:tM k mI (eD ns)with
 |none=>exfalso;unfold tM at hs;rw[dif_pos hh]at hs;cases hs
 |some es'=>obtain⟨n,n',c,e1,e2,hf⟩:=DJ hs;have e1:=DK e1;subst e1;subst e2;rw[hf.unique h]
noncomputable def uZ(kk:Nat)(Ut:FuncId→Option (List PV→Option PV)):(R:Type)→List V→Fr→Mem→(V→Fr→Mem→Option R)→Option R:=
 fun _ args f m k=>match args with
 |[.os id,.fn g lV]=>match m id with
  |some (.arr sz et es)=>match Ut g with
   |some M=>if sz=kk∧es.length≤aa then(tM kk (fun c a b=>(ob (jm (ao m id (.arr kk et c)) eG) lV).bind fun ps=>M (a::b::ps)) es).bind fun es'=>k (.bl []) f (ao m id (.arr kk et es'))else none
   |none=>none
  |_=>none
 |_=>none
end Go.Ab
