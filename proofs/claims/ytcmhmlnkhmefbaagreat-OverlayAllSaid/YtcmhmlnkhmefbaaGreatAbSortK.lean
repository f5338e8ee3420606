import Derived.Test.YtcmhmlnkhmefbaaGreatAbSort
set_option linter.unusedVariables false
namespace Go.Ab
def XD:PV→Bool
 |.int _ _=>true
 |.bool _=>true
 |.str _=>true
 |_=>false
def vO(r:List PV):PV:=.agg r
def eC(ns:List (List PV)):List PV:=ns.map vO
structure jm(k:Nat)(nf:List PV→PV→PV→Option PV)(ns HL:List (List PV))(cf:List PV→List PV→Int):Prop where
 len:∀a∈ns,a.length=k
 R6:∀a∈ns,∀p∈a,XD p=true
 perm:HL.Perm ns
 reads:∀c:List (List PV),c.length=ns.length→(∀x∈c,x∈ns)→∀a∈ns,∀b∈ns,nf (eC c) (vO a) (vO b)=some (.int .i64 (cf a b))
 irrefl:∀a∈ns,¬cf a a<0
 trans:∀a∈ns,∀b∈ns,∀c∈ns,cf a b<0→cf b c<0→cf a c<0
 total:∀a∈ns,∀b∈ns,¬cf a b<0→¬cf b a<0→a=b
 sorted:HL.Pairwise fun a b=>¬cf b a<0
variable{nf:List PV→PV→PV→Option PV}{ns:List (List PV)}
theorem jm.unique{k:Nat}{n1 n2:List (List PV)}{c1 c2:List PV→List PV→Int}(h1:jm k nf ns n1 c1)(h2:jm k nf ns n2 c2):n1=n2:=by
 have hc:∀a∈ns,∀b∈ns,c1 a b=c2 a b:=fun a ha b hb=>by have e1:=h1.reads ns rfl (fun _ h=>h) a ha b hb;have e2:=h2.reads ns rfl (fun _ h=>h) a ha b hb;rw[e1]at e2;simpa using e2
 refine List.Perm.eq_of_pairwise (le:=fun a b=>¬c1 b a<0) (fun a b ha hb h h'=>?_) h1.sorted ?_ (h1.perm.trans h2.perm.symm)
 ·exact h1.total a (h1.perm.mem_iff.1 ha) b (h2.perm.mem_iff.1 hb) h' h
 ·refine h2.sorted.imp_of_mem fun{a b}ha hb h=>?_;rw[hc b (h2.perm.mem_iff.1 hb) a (h2.perm.mem_iff.1 ha)];exact h
noncomputable def ue(k:Nat)(nf:List PV→PV→PV→Option PV)(es:List PV):Option (List PV):= @dite _ (∃ns HL,es=eC ns∧∃cf,jm k nf ns HL cf) (Classical.propDecidable _) (fun h=>some (eC (Classical.choose (Classical.choose_spec h)))) fun _=>none
theorem EC{k:Nat}{es es':List PV}(h:ue k nf es=some es'):∃ns HL cf,es=eC ns∧es'=eC HL∧jm k nf ns HL cf:=by
 unfold ue at h;split at h
 ·rename_i hh;obtain⟨e,cf,hf⟩:=Classical.choose_spec (Classical.choose_spec hh);simp only[Option.some.injEq]at h;exact⟨_,_,cf,e,h.symm,hf⟩
 ·cases h
theorem ED:∀{a b:List (List PV)},eC a=eC b→a=b
 |[],[],_=>rfl
 |[],_::_,h=>by simp[eC]at h
 |_::_,[],h=>by simp[eC]at h
 |x::a,y::b,h=>by simp only[eC,vO,List.map_cons,List.cons.injEq,PV.agg.injEq]at h;rw[h.1,ED h.2]
theorem P9{k:Nat}{HL:List (List PV)}{cf:List PV→List PV→Int}(h:jm k nf ns HL cf):ue k nf (eC ns)=some (eC HL):=by
 have hh:∃n n',eC ns=eC n∧∃cf,jm k nf n n' cf:=⟨ns,HL,rfl,cf,h⟩;cases hs:ue k nf (eC ns)with
 |none=>exfalso;unfold ue at hs;rw[dif_pos hh]at hs;cases hs
 |some es'=>obtain⟨n,n',c,e1,e2,hf⟩:=EC hs;have e1:=ED e1;subst e1;subst e2;rw[hf.unique h]
noncomputable def vE(kk:Nat)(V5:FuncId→Option (List PV→Option PV)):(R:Type)→List V→Fr→Mem→(V→Fr→Mem→Option R)→Option R:=
 fun _ args f m k=>match args with
 |[.os id,.fn g mj]=>match m id with
  |some (.arr sz et es)=>match V5 g with
   |some M=>if sz=kk∧es.length≤aa then(ue kk (fun c a b=>(oN (jw (av m id (.arr kk et c)) eF) mj).bind fun ps=>M (a::b::ps)) es).bind fun es'=>k (.aZ []) f (av m id (.arr kk et es'))else none
   |none=>none
  |_=>none
 |_=>none
end Go.Ab
