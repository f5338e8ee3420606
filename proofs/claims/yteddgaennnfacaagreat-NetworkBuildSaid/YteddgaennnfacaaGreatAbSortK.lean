import Derived.Test.YteddgaennnfacaaGreatAbSort
set_option linter.all false
namespace Go.Ab
def adh:PV→Bool
 |.int _ _=>true
 |.bool _=>true
 |.str _=>true
 |_=>false
def Cc(r:List PV):PV:=.agg r
def eS(ns:List (List PV)):List PV:=ns.map Cc
structure kQ(k:Nat)(rG:List PV→PV→PV→Option PV)(ns N7:List (List PV))(cf:List PV→List PV→Int):Prop where
 len:∀a∈ns,a.length=k
 Xt:∀a∈ns,∀p∈a,adh p=true
 perm:N7.Perm ns
 reads:∀c:List (List PV),c.length=ns.length→(∀x∈c,x∈ns)→∀a∈ns,∀b∈ns,rG (eS c) (Cc a) (Cc b)=some (.int .i64 (cf a b))
 irrefl:∀a∈ns,¬cf a a<0
 trans:∀a∈ns,∀b∈ns,∀c∈ns,cf a b<0→cf b c<0→cf a c<0
 total:∀a∈ns,∀b∈ns,¬cf a b<0→¬cf b a<0→a=b
 sorted:N7.Pairwise fun a b=>¬cf b a<0
variable{rG:List PV→PV→PV→Option PV}{ns:List (List PV)}
theorem kQ.unique{k:Nat}{n1 n2:List (List PV)}{c1 c2:List PV→List PV→Int}(h1:kQ k rG ns n1 c1)(h2:kQ k rG ns n2 c2):n1=n2:=by
 have hc:∀a∈ns,∀b∈ns,c1 a b=c2 a b:=fun a ha b hb=>by have e1:=h1.reads ns rfl (fun _ h=>h) a ha b hb;have e2:=h2.reads ns rfl (fun _ h=>h) a ha b hb;rw[e1]at e2;simpa using e2
 refine anZ (le:=fun a b=>¬c1 b a<0) (fun a b ha hb h h'=>?_) h1.sorted ?_ (h1.perm.trans h2.perm.symm)
 ·exact h1.total a (h1.perm.mem_iff.1 ha) b (h2.perm.mem_iff.1 hb) h' h
 ·refine h2.sorted.imp_of_mem fun{a b}ha hb h=>?_;rw[hc b (h2.perm.mem_iff.1 hb) a (h2.perm.mem_iff.1 ha)];exact h
noncomputable def Az(k:Nat)(rG:List PV→PV→PV→Option PV)(es:List PV):Option (List PV):= @dite _ (∃ns N7,es=eS ns∧∃cf,kQ k rG ns N7 cf) (Classical.propDecidable _) (fun h=>some (eS (Classical.choose (Classical.choose_spec h)))) fun _=>none
theorem K3{k:Nat}{es es':List PV}(h:Az k rG es=some es'):∃ns N7 cf,es=eS ns∧es'=eS N7∧kQ k rG ns N7 cf:=by
 unfold Az at h;split at h
 ·rename_i hh;obtain⟨e,cf,hf⟩:=Classical.choose_spec (Classical.choose_spec hh);simp only[By]at h;exact⟨_,_,cf,e,h.symm,hf⟩
 ·cases h
theorem K4:∀{a b:List (List PV)},eS a=eS b→a=b
 |[],[],_=>rfl
 |[],_::_,h=>by simp[eS]at h
 |_::_,[],h=>by simp[eS]at h
 |x::a,y::b,h=>by simp only[eS,Cc,alu,amn,PV.agg.injEq]at h;rw[h.1,K4 h.2]
theorem Vd{k:Nat}{N7:List (List PV)}{cf:List PV→List PV→Int}(h:kQ k rG ns N7 cf):Az k rG (eS ns)=some (eS N7):=by
 have hh:∃n n',eS ns=eS n∧∃cf,kQ k rG n n' cf:=⟨ns,N7,rfl,cf,h⟩;cases hs:Az k rG (eS ns)with
 |none=>exfalso;unfold Az at hs;rw[aoB hh]at hs;cases hs
 |some es'=>obtain⟨n,n',c,e1,e2,hf⟩:=K3 hs;have e1:=K4 e1;subst e1;subst e2;rw[hf.unique h]
noncomputable def BV(kk:Nat)(clo:FuncId→Option (List PV→Option PV)):(R:Type)→List V→Fr→Mem→(V→Fr→Mem→Option R)→Option R:=
 fun _ args f m k=>match args with
 |[.os id,.fn g caps]=>match m id with
  |some (.arr sz et es)=>match clo g with
   |some M=>if sz=kk∧es.length≤ag∧Nat.blt g Hr=true then(Az kk (fun c a b=>(sR (lz (aw m id (.arr kk et c)) eP) caps).bind fun ps=>M (a::b::ps)) es).bind fun es'=>k (.aG []) f (aw m id (.arr kk et es'))else none
   |none=>none
  |_=>none
 |_=>none
end Go.Ab
