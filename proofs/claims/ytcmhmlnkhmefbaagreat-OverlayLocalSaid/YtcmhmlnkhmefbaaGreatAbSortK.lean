import Derived.Test.YtcmhmlnkhmefbaaGreatAbSort
set_option linter.unusedVariables false
namespace Go.Ab
def VW:PV→Bool
 |.int _ _=>true
 |.bool _=>true
 |.str _=>true
 |_=>false
def vj(r:List PV):PV:=.agg r
def eE(ns:List (List PV)):List PV:=ns.map vj
structure jj(k:Nat)(mN:List PV→PV→PV→Option PV)(ns GW:List (List PV))(cf:List PV→List PV→Int):Prop where
 len:∀a∈ns,a.length=k
 QM:∀a∈ns,∀p∈a,VW p=true
 perm:GW.Perm ns
 reads:∀c:List (List PV),c.length=ns.length→(∀x∈c,x∈ns)→∀a∈ns,∀b∈ns,mN (eE c) (vj a) (vj b)=some (.int .i64 (cf a b))
 irrefl:∀a∈ns,¬cf a a<0
 trans:∀a∈ns,∀b∈ns,∀c∈ns,cf a b<0→cf b c<0→cf a c<0
 total:∀a∈ns,∀b∈ns,¬cf a b<0→¬cf b a<0→a=b
 sorted:GW.Pairwise fun a b=>¬cf b a<0
variable{mN:List PV→PV→PV→Option PV}{ns:List (List PV)}
theorem jj.unique{k:Nat}{n1 n2:List (List PV)}{c1 c2:List PV→List PV→Int}(h1:jj k mN ns n1 c1)(h2:jj k mN ns n2 c2):n1=n2:=by
 have hc:∀a∈ns,∀b∈ns,c1 a b=c2 a b:=fun a ha b hb=>by have e1:=h1.reads ns rfl (fun _ h=>h) a ha b hb;have e2:=h2.reads ns rfl (fun _ h=>h) a ha b hb;rw[e1]at e2;simpa using e2
 refine List.Perm.eq_of_pairwise (le:=fun a b=>¬c1 b a<0) (fun a b ha hb h h'=>?_) h1.sorted ?_ (h1.perm.trans h2.perm.symm)
 ·exact h1.total a (h1.perm.mem_iff.1 ha) b (h2.perm.mem_iff.1 hb) h' h
 ·refine h2.sorted.imp_of_mem fun{a b}ha hb h=>?_;rw[hc b (h2.perm.mem_iff.1 hb) a (h2.perm.mem_iff.1 ha)];exact h
noncomputable def tN(k:Nat)(mN:List PV→PV→PV→Option PV)(es:List PV):Option (List PV):= @dite _ (∃ns GW,es=eE ns∧∃cf,jj k mN ns GW cf) (Classical.propDecidable _) (fun h=>some (eE (Classical.choose (Classical.choose_spec h)))) fun _=>none
theorem DM{k:Nat}{es es':List PV}(h:tN k mN es=some es'):∃ns GW cf,es=eE ns∧es'=eE GW∧jj k mN ns GW cf:=by
 unfold tN at h;split at h
 ·rename_i hh;obtain⟨e,cf,hf⟩:=Classical.choose_spec (Classical.choose_spec hh);simp only[Option.some.injEq]at h;exact⟨_,_,cf,e,h.symm,hf⟩
 ·cases h
theorem DN:∀{a b:List (List PV)},eE a=eE b→a=b
 |[],[],_=>rfl
 |[],_::_,h=>by simp[eE]at h
 |_::_,[],h=>by simp[eE]at h
 |x::a,y::b,h=>by simp only[eE,vj,List.map_cons,List.cons.injEq,PV.agg.injEq]at h;rw[h.1,DN h.2]
theorem OJ{k:Nat}{GW:List (List PV)}{cf:List PV→List PV→Int}(h:jj k mN ns GW cf):tN k mN (eE ns)=some (eE GW):=by
 have hh:∃n n',eE ns=eE n∧∃cf,jj k mN n n' cf:=⟨ns,GW,rfl,cf,h⟩;cases hs:tN k mN (eE ns)with
 |none=>exfalso;unfold tN at hs;rw[dif_pos hh]at hs;cases hs
 |some es'=>obtain⟨n,n',c,e1,e2,hf⟩:=DM hs;have e1:=DN e1;subst e1;subst e2;rw[hf.unique h]
noncomputable def uZ(kk:Nat)(Uw:FuncId→Option (List PV→Option PV)):(R:Type)→List V→Fr→Mem→(V→Fr→Mem→Option R)→Option R:=
 fun _ args f m k=>match args with
 |[.os id,.fn g lY]=>match m id with
  |some (.arr sz et es)=>match Uw g with
   |some M=>if sz=kk∧es.length≤aa then(tN kk (fun c a b=>(oc (jq (ao m id (.arr kk et c)) eH) lY).bind fun ps=>M (a::b::ps)) es).bind fun es'=>k (.bl []) f (ao m id (.arr kk et es'))else none
   |none=>none
  |_=>none
 |_=>none
end Go.Ab
