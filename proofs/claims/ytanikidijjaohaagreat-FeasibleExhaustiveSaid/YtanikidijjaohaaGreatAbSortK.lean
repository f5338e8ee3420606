import Derived.Test.YtanikidijjaohaaGreatAbSort
set_option linter.unusedVariables false
set_option linter.unusedSimpArgs false
namespace Go.Ab
def abl:PV→Bool
 |.int _ _=>true
 |.bool _=>true
 |.str _=>true
 |_=>false
def y4(r:List PV):PV:=.agg r
def eQ(ns:List (List PV)):List PV:=ns.map y4
structure k8(k:Nat)(pH:List PV→PV→PV→Option PV)(ns LQ:List (List PV))(cf:List PV→List PV→Int):Prop where
 len:∀a∈ns,a.length=k
 Wu:∀a∈ns,∀p∈a,abl p=true
 perm:LQ.Perm ns
 reads:∀c:List (List PV),c.length=ns.length→(∀x∈c,x∈ns)→∀a∈ns,∀b∈ns,pH (eQ c) (y4 a) (y4 b)=some (.int .i64 (cf a b))
 irrefl:∀a∈ns,¬cf a a<0
 trans:∀a∈ns,∀b∈ns,∀c∈ns,cf a b<0→cf b c<0→cf a c<0
 total:∀a∈ns,∀b∈ns,¬cf a b<0→¬cf b a<0→a=b
 sorted:LQ.Pairwise fun a b=>¬cf b a<0
variable{pH:List PV→PV→PV→Option PV}{ns:List (List PV)}
theorem k8.unique{k:Nat}{n1 n2:List (List PV)}{c1 c2:List PV→List PV→Int}(h1:k8 k pH ns n1 c1)(h2:k8 k pH ns n2 c2):n1=n2:=by
 have hc:∀a∈ns,∀b∈ns,c1 a b=c2 a b:=fun a ha b hb=>by have e1:=h1.reads ns rfl (fun _ h=>h) a ha b hb;have e2:=h2.reads ns rfl (fun _ h=>h) a ha b hb;rw[e1]at e2;simpa using e2
 refine amx (le:=fun a b=>¬c1 b a<0) (fun a b ha hb h h'=>?_) h1.sorted ?_ (h1.perm.trans h2.perm.symm)
 ·exact h1.total a (h1.perm.mem_iff.1 ha) b (h2.perm.mem_iff.1 hb) h' h
 ·refine h2.sorted.imp_of_mem fun{a b}ha hb h=>?_;rw[hc b (h2.perm.mem_iff.1 hb) a (h2.perm.mem_iff.1 ha)];exact h
noncomputable def xx(k:Nat)(pH:List PV→PV→PV→Option PV)(es:List PV):Option (List PV):= @dite _ (∃ns LQ,es=eQ ns∧∃cf,k8 k pH ns LQ cf) (Classical.propDecidable _) (fun h=>some (eQ (Classical.choose (Classical.choose_spec h)))) fun _=>none
theorem Ij{k:Nat}{es es':List PV}(h:xx k pH es=some es'):∃ns LQ cf,es=eQ ns∧es'=eQ LQ∧k8 k pH ns LQ cf:=by
 unfold xx at h;split at h
 ·rename_i hh;obtain⟨e,cf,hf⟩:=Classical.choose_spec (Classical.choose_spec hh);simp only[AT]at h;exact⟨_,_,cf,e,h.symm,hf⟩
 ·cases h
theorem Ik:∀{a b:List (List PV)},eQ a=eQ b→a=b
 |[],[],_=>rfl
 |[],_::_,h=>by simp[eQ]at h
 |_::_,[],h=>by simp[eQ]at h
 |x::a,y::b,h=>by simp only[eQ,y4,ajy,aku,PV.agg.injEq]at h;rw[h.1,Ik h.2]
theorem UD{k:Nat}{LQ:List (List PV)}{cf:List PV→List PV→Int}(h:k8 k pH ns LQ cf):xx k pH (eQ ns)=some (eQ LQ):=by
 have hh:∃n n',eQ ns=eQ n∧∃cf,k8 k pH n n' cf:=⟨ns,LQ,rfl,cf,h⟩;cases hs:xx k pH (eQ ns)with
 |none=>exfalso;unfold xx at hs;rw[ana hh]at hs;cases hs
 |some es'=>obtain⟨n,n',c,e1,e2,hf⟩:=Ij hs;have e1:=Ik e1;subst e1;subst e2;rw[hf.unique h]
noncomputable def yS(kk:Nat)(clo:FuncId→Option (List PV→Option PV)):(R:Type)→List V→Fr→Mem→(V→Fr→Mem→Option R)→Option R:=
 fun _ args f m k=>match args with
 |[.os id,.fn g caps]=>match m id with
  |some (.arr sz et es)=>match clo g with
   |some M=>if sz=kk∧es.length≤af∧Nat.blt g EC=true then(xx kk (fun c a b=>(qW (lj (aq m id (.arr kk et c)) eW) caps).bind fun ps=>M (a::b::ps)) es).bind fun es'=>k (.bu []) f (aq m id (.arr kk et es'))else none
   |none=>none
  |_=>none
 |_=>none
end Go.Ab
