import Derived.Test.YtanikidijjaohaaGreatAbSort
set_option linter.unusedVariables false
namespace Go.Ab
def Zo:PV→Bool
 |.int _ _=>true
 |.bool _=>true
 |.str _=>true
 |_=>false
def xg(r:List PV):PV:=.agg r
def eB(ns:List (List PV)):List PV:=ns.map xg
structure kA(k:Nat)(oD:List PV→PV→PV→Option PV)(ns JT:List (List PV))(cf:List PV→List PV→Int):Prop where
 len:∀a∈ns,a.length=k
 T5:∀a∈ns,∀p∈a,Zo p=true
 perm:JT.Perm ns
 reads:∀c:List (List PV),c.length=ns.length→(∀x∈c,x∈ns)→∀a∈ns,∀b∈ns,oD (eB c) (xg a) (xg b)=some (.int .i64 (cf a b))
 irrefl:∀a∈ns,¬cf a a<0
 trans:∀a∈ns,∀b∈ns,∀c∈ns,cf a b<0→cf b c<0→cf a c<0
 total:∀a∈ns,∀b∈ns,¬cf a b<0→¬cf b a<0→a=b
 sorted:JT.Pairwise fun a b=>¬cf b a<0
variable{oD:List PV→PV→PV→Option PV}{ns:List (List PV)}
theorem kA.unique{k:Nat}{n1 n2:List (List PV)}{c1 c2:List PV→List PV→Int}(h1:kA k oD ns n1 c1)(h2:kA k oD ns n2 c2):n1=n2:=by
 have hc:∀a∈ns,∀b∈ns,c1 a b=c2 a b:=fun a ha b hb=>by have e1:=h1.reads ns rfl (fun _ h=>h) a ha b hb;have e2:=h2.reads ns rfl (fun _ h=>h) a ha b hb;rw[e1]at e2;simpa using e2
 refine List.Perm.eq_of_pairwise (le:=fun a b=>¬c1 b a<0) (fun a b ha hb h h'=>?_) h1.sorted ?_ (h1.perm.trans h2.perm.symm)
 ·exact h1.total a (h1.perm.mem_iff.1 ha) b (h2.perm.mem_iff.1 hb) h' h
 ·refine h2.sorted.imp_of_mem fun{a b}ha hb h=>?_;rw[hc b (h2.perm.mem_iff.1 hb) a (h2.perm.mem_iff.1 ha)];exact h
noncomputable def vS(k:Nat)(oD:List PV→PV→PV→Option PV)(es:List PV):Option (List PV):= @dite _ (∃ns JT,es=eB ns∧∃cf,kA k oD ns JT cf) (Classical.propDecidable _) (fun h=>some (eB (Classical.choose (Classical.choose_spec h)))) fun _=>none
theorem Gw{k:Nat}{es es':List PV}(h:vS k oD es=some es'):∃ns JT cf,es=eB ns∧es'=eB JT∧kA k oD ns JT cf:=by
 unfold vS at h;split at h
 ·rename_i hh;obtain⟨e,cf,hf⟩:=Classical.choose_spec (Classical.choose_spec hh);simp only[Option.some.injEq]at h;exact⟨_,_,cf,e,h.symm,hf⟩
 ·cases h
theorem Gx:∀{a b:List (List PV)},eB a=eB b→a=b
 |[],[],_=>rfl
 |[],_::_,h=>by simp[eB]at h
 |_::_,[],h=>by simp[eB]at h
 |x::a,y::b,h=>by simp only[eB,xg,List.map_cons,List.cons.injEq,PV.agg.injEq]at h;rw[h.1,Gx h.2]
theorem Sf{k:Nat}{JT:List (List PV)}{cf:List PV→List PV→Int}(h:kA k oD ns JT cf):vS k oD (eB ns)=some (eB JT):=by
 have hh:∃n n',eB ns=eB n∧∃cf,kA k oD n n' cf:=⟨ns,JT,rfl,cf,h⟩;cases hs:vS k oD (eB ns)with
 |none=>exfalso;unfold vS at hs;rw[dif_pos hh]at hs;cases hs
 |some es'=>obtain⟨n,n',c,e1,e2,hf⟩:=Gw hs;have e1:=Gx e1;subst e1;subst e2;rw[hf.unique h]
noncomputable def wZ(kk:Nat)(XH:FuncId→Option (List PV→Option PV)):(R:Type)→List V→Fr→Mem→(V→Fr→Mem→Option R)→Option R:=
 fun _ args f m k=>match args with
 |[.os id,.fn g caps]=>match m id with
  |some (.arr sz et es)=>match XH g with
   |some M=>if sz=kk∧es.length≤an∧Nat.blt g Cg=true then(vS kk (fun c a b=>(pH (kD (ak m id (.arr kk et c)) eL) caps).bind fun ps=>M (a::b::ps)) es).bind fun es'=>k (.bt []) f (ak m id (.arr kk et es'))else none
   |none=>none
  |_=>none
 |_=>none
end Go.Ab
