import Derived.Test.YtcmhmlnkhmefbaaGreatAbSort
set_option linter.unusedVariables false
namespace Go.Ab
def VG:PV→Bool
 |.int _ _=>true
 |.bool _=>true
 |.str _=>true
 |_=>false
def ve(r:List PV):PV:=.agg r
def eC(ns:List (List PV)):List PV:=ns.map ve
structure jg(k:Nat)(mJ:List PV→PV→PV→Option PV)(ns GJ:List (List PV))(cf:List PV→List PV→Int):Prop where
 len:∀a∈ns,a.length=k
 Qs:∀a∈ns,∀p∈a,VG p=true
 perm:GJ.Perm ns
 reads:∀c:List (List PV),c.length=ns.length→(∀x∈c,x∈ns)→∀a∈ns,∀b∈ns,mJ (eC c) (ve a) (ve b)=some (.int .i64 (cf a b))
 irrefl:∀a∈ns,¬cf a a<0
 trans:∀a∈ns,∀b∈ns,∀c∈ns,cf a b<0→cf b c<0→cf a c<0
 total:∀a∈ns,∀b∈ns,¬cf a b<0→¬cf b a<0→a=b
 sorted:GJ.Pairwise fun a b=>¬cf b a<0
variable{mJ:List PV→PV→PV→Option PV}{ns:List (List PV)}
theorem jg.unique{k:Nat}{n1 n2:List (List PV)}{c1 c2:List PV→List PV→Int}(h1:jg k mJ ns n1 c1)(h2:jg k mJ ns n2 c2):n1=n2:=by
 have hc:∀a∈ns,∀b∈ns,c1 a b=c2 a b:=fun a ha b hb=>by have e1:=h1.reads ns rfl (fun _ h=>h) a ha b hb;have e2:=h2.reads ns rfl (fun _ h=>h) a ha b hb;rw[e1]at e2;simpa using e2
 refine List.Perm.eq_of_pairwise (le:=fun a b=>¬c1 b a<0) (fun a b ha hb h h'=>?_) h1.sorted ?_ (h1.perm.trans h2.perm.symm)
 ·exact h1.total a (h1.perm.mem_iff.1 ha) b (h2.perm.mem_iff.1 hb) h' h
 ·refine h2.sorted.imp_of_mem fun{a b}ha hb h=>?_;rw[hc b (h2.perm.mem_iff.1 hb) a (h2.perm.mem_iff.1 ha)];exact h
noncomputable def tG(k:Nat)(mJ:List PV→PV→PV→Option PV)(es:List PV):Option (List PV):= @dite _ (∃ns GJ,es=eC ns∧∃cf,jg k mJ ns GJ cf) (Classical.propDecidable _) (fun h=>some (eC (Classical.choose (Classical.choose_spec h)))) fun _=>none
theorem DB{k:Nat}{es es':List PV}(h:tG k mJ es=some es'):∃ns GJ cf,es=eC ns∧es'=eC GJ∧jg k mJ ns GJ cf:=by
 unfold tG at h;split at h
 ·rename_i hh;obtain⟨e,cf,hf⟩:=Classical.choose_spec (Classical.choose_spec hh);simp only[Option.some.injEq]at h;exact⟨_,_,cf,e,h.symm,hf⟩
 ·cases h
theorem DC:∀{a b:List (List PV)},eC a=eC b→a=b
 |[],[],_=>rfl
 |[],_::_,h=>by simp[eC]at h
 |_::_,[],h=>by simp[eC]at h
 |x::a,y::b,h=>by simp only[eC,ve,List.map_cons,List.cons.injEq,PV.agg.injEq]at h;rw[h.1,DC h.2]
theorem Oq{k:Nat}{GJ:List (List PV)}{cf:List PV→List PV→Int}(h:jg k mJ ns GJ cf):tG k mJ (eC ns)=some (eC GJ):=by
 have hh:∃n n',eC ns=eC n∧∃cf,jg k mJ n n' cf:=⟨ns,GJ,rfl,cf,h⟩;cases hs:tG k mJ (eC ns)with
 |none=>exfalso;unfold tG at hs;rw[dif_pos hh]at hs;cases hs
 |some es'=>obtain⟨n,n',c,e1,e2,hf⟩:=DB hs;have e1:=DC e1;subst e1;subst e2;rw[hf.unique h]
noncomputable def uU(kk:Nat)(Ui:FuncId→Option (List PV→Option PV)):(R:Type)→List V→Fr→Mem→(V→Fr→Mem→Option R)→Option R:=
 fun _ args f m k=>match args with
 |[.os id,.fn g lW]=>match m id with
  |some (.arr sz et es)=>match Ui g with
   |some M=>if sz=kk∧es.length≤aa then(tG kk (fun c a b=>(nZ (jn (ao m id (.arr kk et c)) eF) lW).bind fun ps=>M (a::b::ps)) es).bind fun es'=>k (.bl []) f (ao m id (.arr kk et es'))else none
   |none=>none
  |_=>none
 |_=>none
end Go.Ab
