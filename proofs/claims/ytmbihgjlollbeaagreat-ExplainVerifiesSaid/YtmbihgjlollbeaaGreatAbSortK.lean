import Derived.Test.YtmbihgjlollbeaaGreatAbSort
set_option linter.all false
namespace Go.Ab
def aiB:PV→Bool
 |.int _ _=>true
 |.bool _=>true
 |.str _=>true
 |_=>false
def ET(r:List PV):PV:=.agg r
def fp(ns:List (List PV)):List PV:=ns.map ET
structure mT(k:Nat)(tN:List PV→PV→PV→Option PV)(ns RP:List (List PV))(cf:List PV→List PV→Int):Prop where
 len:∀a∈ns,a.length=k
 aci:∀a∈ns,∀p∈a,aiB p=true
 perm:RP.Perm ns
 reads:∀c:List (List PV),c.length=ns.length→(∀x∈c,x∈ns)→∀a∈ns,∀b∈ns,tN (fp c) (ET a) (ET b)=some (.int .i64 (cf a b))
 irrefl:∀a∈ns,¬cf a a<0
 trans:∀a∈ns,∀b∈ns,∀c∈ns,cf a b<0→cf b c<0→cf a c<0
 total:∀a∈ns,∀b∈ns,¬cf a b<0→¬cf b a<0→a=b
 sorted:RP.Pairwise fun a b=>¬cf b a<0
variable{tN:List PV→PV→PV→Option PV}{ns:List (List PV)}
theorem mT.unique{k:Nat}{n1 n2:List (List PV)}{c1 c2:List PV→List PV→Int}(h1:mT k tN ns n1 c1)(h2:mT k tN ns n2 c2):n1=n2:=by
 have hc:∀a∈ns,∀b∈ns,c1 a b=c2 a b:=fun a ha b hb=>by have e1:=h1.reads ns rfl (fun _ h=>h) a ha b hb;have e2:=h2.reads ns rfl (fun _ h=>h) a ha b hb;rw[e1]at e2;simpa using e2
 refine auS (le:=fun a b=>¬c1 b a<0) (fun a b ha hb h h'=>?_) h1.sorted ?_ (h1.perm.trans h2.perm.symm)
 ·exact h1.total a (h1.perm.mem_iff.1 ha) b (h2.perm.mem_iff.1 hb) h' h
 ·refine h2.sorted.imp_of_mem fun{a b}ha hb h=>?_;rw[hc b (h2.perm.mem_iff.1 hb) a (h2.perm.mem_iff.1 ha)];exact h
noncomputable def C2(k:Nat)(tN:List PV→PV→PV→Option PV)(es:List PV):Option (List PV):= @dite _ (∃ns RP,es=fp ns∧∃cf,mT k tN ns RP cf) (Classical.propDecidable _) (fun h=>some (fp (Classical.choose (Classical.choose_spec h)))) fun _=>none
theorem Ox{k:Nat}{es es':List PV}(h:C2 k tN es=some es'):∃ns RP cf,es=fp ns∧es'=fp RP∧mT k tN ns RP cf:=by
 unfold C2 at h;split at h
 ·rename_i hh;obtain⟨e,cf,hf⟩:=Classical.choose_spec (Classical.choose_spec hh);simp only[cO]at h;exact⟨_,_,cf,e,h.symm,hf⟩
 ·cases h
theorem Oy:∀{a b:List (List PV)},fp a=fp b→a=b
 |[],[],_=>rfl
 |[],_::_,h=>by simp[fp]at h
 |_::_,[],h=>by simp[fp]at h
 |x::a,y::b,h=>by simp only[fp,ET,ass,ato,PV.agg.injEq]at h;rw[h.1,Oy h.2]
theorem aap{k:Nat}{RP:List (List PV)}{cf:List PV→List PV→Int}(h:mT k tN ns RP cf):C2 k tN (fp ns)=some (fp RP):=by
 have hh:∃n n',fp ns=fp n∧∃cf,mT k tN n n' cf:=⟨ns,RP,rfl,cf,h⟩;cases hs:C2 k tN (fp ns)with
 |none=>exfalso;unfold C2 at hs;rw[avz hh]at hs;cases hs
 |some es'=>obtain⟨n,n',c,e1,e2,hf⟩:=Ox hs;have e1:=Oy e1;subst e1;subst e2;rw[hf.unique h]
noncomputable def EF(kk:Nat)(clo:FuncId→Option (List PV→Option PV)):(R:Type)→List V→Fr→Mem→(V→Fr→Mem→Option R)→Option R:=
 fun _ args f m k=>match args with
 |[.os id,.fn g caps]=>match m id with
  |some (.arr sz et es)=>match clo g with
   |some M=>if sz=kk∧es.length≤ah∧Nat.blt g KA=true then(C2 kk (fun c a b=>(uZ (nv (aD m id (.arr kk et c)) fl) caps).bind fun ps=>M (a::b::ps)) es).bind fun es'=>k (.aG []) f (aD m id (.arr kk et es'))else none
   |none=>none
  |_=>none
 |_=>none
end Go.Ab
