import Derived.Test.YtmbihgjlollbeaaGreatAbSort
set_option linter.unusedVariables false
set_option linter.unusedSimpArgs false
namespace Go.Ab
def aaL:PV→Bool
 |.int _ _=>true
 |.bool _=>true
 |.str _=>true
 |_=>false
def yY(r:List PV):PV:=.agg r
def eE(ns:List (List PV)):List PV:=ns.map yY
structure kP(k:Nat)(pH:List PV→PV→PV→Option PV)(ns KX:List (List PV))(cf:List PV→List PV→Int):Prop where
 len:∀a∈ns,a.length=k
 T9:∀a∈ns,∀p∈a,aaL p=true
 perm:KX.Perm ns
 reads:∀c:List (List PV),c.length=ns.length→(∀x∈c,x∈ns)→∀a∈ns,∀b∈ns,pH (eE c) (yY a) (yY b)=some (.int .i64 (cf a b))
 irrefl:∀a∈ns,¬cf a a<0
 trans:∀a∈ns,∀b∈ns,∀c∈ns,cf a b<0→cf b c<0→cf a c<0
 total:∀a∈ns,∀b∈ns,¬cf a b<0→¬cf b a<0→a=b
 sorted:KX.Pairwise fun a b=>¬cf b a<0
variable{pH:List PV→PV→PV→Option PV}{ns:List (List PV)}
theorem kP.unique{k:Nat}{n1 n2:List (List PV)}{c1 c2:List PV→List PV→Int}(h1:kP k pH ns n1 c1)(h2:kP k pH ns n2 c2):n1=n2:=by
 have hc:∀a∈ns,∀b∈ns,c1 a b=c2 a b:=fun a ha b hb=>by have e1:=h1.reads ns rfl (fun _ h=>h) a ha b hb;have e2:=h2.reads ns rfl (fun _ h=>h) a ha b hb;rw[e1]at e2;simpa using e2
 refine alN (le:=fun a b=>¬c1 b a<0) (fun a b ha hb h h'=>?_) h1.sorted ?_ (h1.perm.trans h2.perm.symm)
 ·exact h1.total a (h1.perm.mem_iff.1 ha) b (h2.perm.mem_iff.1 hb) h' h
 ·refine h2.sorted.imp_of_mem fun{a b}ha hb h=>?_;rw[hc b (h2.perm.mem_iff.1 hb) a (h2.perm.mem_iff.1 ha)];exact h
noncomputable def xn(k:Nat)(pH:List PV→PV→PV→Option PV)(es:List PV):Option (List PV):= @dite _ (∃ns KX,es=eE ns∧∃cf,kP k pH ns KX cf) (Classical.propDecidable _) (fun h=>some (eE (Classical.choose (Classical.choose_spec h)))) fun _=>none
theorem HL{k:Nat}{es es':List PV}(h:xn k pH es=some es'):∃ns KX cf,es=eE ns∧es'=eE KX∧kP k pH ns KX cf:=by
 unfold xn at h;split at h
 ·rename_i hh;obtain⟨e,cf,hf⟩:=Classical.choose_spec (Classical.choose_spec hh);simp only[cN]at h;exact⟨_,_,cf,e,h.symm,hf⟩
 ·cases h
theorem HM:∀{a b:List (List PV)},eE a=eE b→a=b
 |[],[],_=>rfl
 |[],_::_,h=>by simp[eE]at h
 |_::_,[],h=>by simp[eE]at h
 |x::a,y::b,h=>by simp only[eE,yY,ajr,akf,PV.agg.injEq]at h;rw[h.1,HM h.2]
theorem RU{k:Nat}{KX:List (List PV)}{cf:List PV→List PV→Int}(h:kP k pH ns KX cf):xn k pH (eE ns)=some (eE KX):=by
 have hh:∃n n',eE ns=eE n∧∃cf,kP k pH n n' cf:=⟨ns,KX,rfl,cf,h⟩;cases hs:xn k pH (eE ns)with
 |none=>exfalso;unfold xn at hs;rw[amj hh]at hs;cases hs
 |some es'=>obtain⟨n,n',c,e1,e2,hf⟩:=HL hs;have e1:=HM e1;subst e1;subst e2;rw[hf.unique h]
noncomputable def yI(kk:Nat)(Zj:FuncId→Option (List PV→Option PV)):(R:Type)→List V→Fr→Mem→(V→Fr→Mem→Option R)→Option R:=
 fun _ args f m k=>match args with
 |[.os id,.fn g caps]=>match m id with
  |some (.arr sz et es)=>match Zj g with
   |some M=>if sz=kk∧es.length≤ah∧Nat.blt g D4=true then(xn kk (fun c a b=>(qF (lx (ao m id (.arr kk et c)) eB) caps).bind fun ps=>M (a::b::ps)) es).bind fun es'=>k (.aP []) f (ao m id (.arr kk et es'))else none
   |none=>none
  |_=>none
 |_=>none
end Go.Ab
