import Derived.Test.YtmbihgjlollbeaaGreatAbSort
set_option linter.all false
namespace Go.Ab
def ab2:PV→Bool
 |.int _ _=>true
 |.bool _=>true
 |.str _=>true
 |_=>false
def zx(r:List PV):PV:=.agg r
def eH(ns:List (List PV)):List PV:=ns.map zx
structure kY(k:Nat)(pV:List PV→PV→PV→Option PV)(ns LB:List (List PV))(cf:List PV→List PV→Int):Prop where
 len:∀a∈ns,a.length=k
 Vg:∀a∈ns,∀p∈a,ab2 p=true
 perm:LB.Perm ns
 reads:∀c:List (List PV),c.length=ns.length→(∀x∈c,x∈ns)→∀a∈ns,∀b∈ns,pV (eH c) (zx a) (zx b)=some (.int .i64 (cf a b))
 irrefl:∀a∈ns,¬cf a a<0
 trans:∀a∈ns,∀b∈ns,∀c∈ns,cf a b<0→cf b c<0→cf a c<0
 total:∀a∈ns,∀b∈ns,¬cf a b<0→¬cf b a<0→a=b
 sorted:LB.Pairwise fun a b=>¬cf b a<0
variable{pV:List PV→PV→PV→Option PV}{ns:List (List PV)}
theorem kY.unique{k:Nat}{n1 n2:List (List PV)}{c1 c2:List PV→List PV→Int}(h1:kY k pV ns n1 c1)(h2:kY k pV ns n2 c2):n1=n2:=by
 have hc:∀a∈ns,∀b∈ns,c1 a b=c2 a b:=fun a ha b hb=>by have e1:=h1.reads ns rfl (fun _ h=>h) a ha b hb;have e2:=h2.reads ns rfl (fun _ h=>h) a ha b hb;rw[e1]at e2;simpa using e2
 refine amE (le:=fun a b=>¬c1 b a<0) (fun a b ha hb h h'=>?_) h1.sorted ?_ (h1.perm.trans h2.perm.symm)
 ·exact h1.total a (h1.perm.mem_iff.1 ha) b (h2.perm.mem_iff.1 hb) h' h
 ·refine h2.sorted.imp_of_mem fun{a b}ha hb h=>?_;rw[hc b (h2.perm.mem_iff.1 hb) a (h2.perm.mem_iff.1 ha)];exact h
noncomputable def xW(k:Nat)(pV:List PV→PV→PV→Option PV)(es:List PV):Option (List PV):= @dite _ (∃ns LB,es=eH ns∧∃cf,kY k pV ns LB cf) (Classical.propDecidable _) (fun h=>some (eH (Classical.choose (Classical.choose_spec h)))) fun _=>none
theorem H9{k:Nat}{es es':List PV}(h:xW k pV es=some es'):∃ns LB cf,es=eH ns∧es'=eH LB∧kY k pV ns LB cf:=by
 unfold xW at h;split at h
 ·rename_i hh;obtain⟨e,cf,hf⟩:=Classical.choose_spec (Classical.choose_spec hh);simp only[cO]at h;exact⟨_,_,cf,e,h.symm,hf⟩
 ·cases h
theorem Ia:∀{a b:List (List PV)},eH a=eH b→a=b
 |[],[],_=>rfl
 |[],_::_,h=>by simp[eH]at h
 |_::_,[],h=>by simp[eH]at h
 |x::a,y::b,h=>by simp only[eH,zx,akn,alc,PV.agg.injEq]at h;rw[h.1,Ia h.2]
theorem S1{k:Nat}{LB:List (List PV)}{cf:List PV→List PV→Int}(h:kY k pV ns LB cf):xW k pV (eH ns)=some (eH LB):=by
 have hh:∃n n',eH ns=eH n∧∃cf,kY k pV n n' cf:=⟨ns,LB,rfl,cf,h⟩;cases hs:xW k pV (eH ns)with
 |none=>exfalso;unfold xW at hs;rw[ank hh]at hs;cases hs
 |some es'=>obtain⟨n,n',c,e1,e2,hf⟩:=H9 hs;have e1:=Ia e1;subst e1;subst e2;rw[hf.unique h]
noncomputable def zf(kk:Nat)(clo:FuncId→Option (List PV→Option PV)):(R:Type)→List V→Fr→Mem→(V→Fr→Mem→Option R)→Option R:=
 fun _ args f m k=>match args with
 |[.os id,.fn g caps]=>match m id with
  |some (.arr sz et es)=>match clo g with
   |some M=>if sz=kk∧es.length≤ae∧Nat.blt g Eu=true then(xW kk (fun c a b=>(qT (lF (ao m id (.arr kk et c)) eE) caps).bind fun ps=>M (a::b::ps)) es).bind fun es'=>k (.aO []) f (ao m id (.arr kk et es'))else none
   |none=>none
  |_=>none
 |_=>none
end Go.Ab
