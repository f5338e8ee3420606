import Derived.Test.YtoaknfoobjnjgaaGreatAbSort
set_option linter.all false
namespace Go.Ab
def aeE:PV→Bool
 |.int _ _=>true
 |.bool _=>true
 |.str _=>true
 |_=>false
def AU(r:List PV):PV:=.agg r
def fg(ns:List (List PV)):List PV:=ns.map AU
structure lD(k:Nat)(rq:List PV→PV→PV→Option PV)(ns Oj:List (List PV))(cf:List PV→List PV→Int):Prop where
 len:∀a∈ns,a.length=k
 UP:∀a∈ns,∀p∈a,aeE p=true
 perm:Oj.Perm ns
 reads:∀c:List (List PV),c.length=ns.length→(∀x∈c,x∈ns)→∀a∈ns,∀b∈ns,rq (fg c) (AU a) (AU b)=some (.int .i64 (cf a b))
 irrefl:∀a∈ns,¬cf a a<0
 trans:∀a∈ns,∀b∈ns,∀c∈ns,cf a b<0→cf b c<0→cf a c<0
 total:∀a∈ns,∀b∈ns,¬cf a b<0→¬cf b a<0→a=b
 sorted:Oj.Pairwise fun a b=>¬cf b a<0
variable{rq:List PV→PV→PV→Option PV}{ns:List (List PV)}
theorem lD.unique{k:Nat}{n1 n2:List (List PV)}{c1 c2:List PV→List PV→Int}(h1:lD k rq ns n1 c1)(h2:lD k rq ns n2 c2):n1=n2:=by
 have hc:∀a∈ns,∀b∈ns,c1 a b=c2 a b:=fun a ha b hb=>by have e1:=h1.reads ns rfl (fun _ h=>h) a ha b hb;have e2:=h2.reads ns rfl (fun _ h=>h) a ha b hb;rw[e1]at e2;simpa using e2
 refine aqf (le:=fun a b=>¬c1 b a<0) (fun a b ha hb h h'=>?_) h1.sorted ?_ (h1.perm.trans h2.perm.symm)
 ·exact h1.total a (h1.perm.mem_iff.1 ha) b (h2.perm.mem_iff.1 hb) h' h
 ·refine h2.sorted.imp_of_mem fun{a b}ha hb h=>?_;rw[hc b (h2.perm.mem_iff.1 hb) a (h2.perm.mem_iff.1 ha)];exact h
noncomputable def zh(k:Nat)(rq:List PV→PV→PV→Option PV)(es:List PV):Option (List PV):=if es.isEmpty=true then some []else @dite _ (∃ns Oj,es=fg ns∧∃cf,lD k rq ns Oj cf) (Classical.propDecidable _) (fun h=>some (fg (Classical.choose (Classical.choose_spec h)))) fun _=>none
theorem Kq{k:Nat}{es es':List PV}(h:zh k rq es=some es'):∃ns Oj cf,es=fg ns∧es'=fg Oj∧lD k rq ns Oj cf:=by
 unfold zh at h;split at h
 ·rename_i he;cases h;have he:es=[]:=by simpa using he
  subst he;exact⟨[],[],fun _ _=>0,rfl,rfl,{len:=fun a ha=>(by cases ha),UP:=fun a ha=>(by cases ha),perm:=List.Perm.refl _,reads:=fun _ _ _ a ha=>(by cases ha),irrefl:=fun a ha=>(by cases ha),trans:=fun a ha=>(by cases ha),total:=fun a ha=>(by cases ha),sorted:=List.Pairwise.nil}⟩
 split at h
 ·rename_i hh;obtain⟨e,cf,hf⟩:=Classical.choose_spec (Classical.choose_spec hh);simp only[tb]at h;exact⟨_,_,cf,e,h.symm,hf⟩
 ·cases h
theorem Kr:∀{a b:List (List PV)},fg a=fg b→a=b
 |[],[],_=>rfl
 |[],_::_,h=>by simp[fg]at h
 |_::_,[],h=>by simp[fg]at h
 |x::a,y::b,h=>by simp only[fg,AU,anB,aon,PV.agg.injEq]at h;rw[h.1,Kr h.2]
theorem Vq{k:Nat}{Oj:List (List PV)}{cf:List PV→List PV→Int}(h:lD k rq ns Oj cf):zh k rq (fg ns)=some (fg Oj):=by
 have hh:∃n n',fg ns=fg n∧∃cf,lD k rq n n' cf:=⟨ns,Oj,rfl,cf,h⟩;cases hs:zh k rq (fg ns)with
 |none=>
  exfalso;unfold zh at hs;split at hs
  ·cases hs
  simp[hh]at hs
 |some es'=>obtain⟨n,n',c,e1,e2,hf⟩:=Kq hs;have e1:=Kr e1;subst e1;subst e2;rw[hf.unique h]
noncomputable def Av(kk:Nat)(clo:FuncId→Option (List PV→Option PV)):(R:Type)→List V→Fr→Mem→(V→Fr→Mem→Option R)→Option R:=
 fun _ args f m k=>match args with
 |[.os id,.fn g caps]=>match m id with
  |some (.arr sz et es)=>match clo g with
   |some M=>if sz=kk∧es.length≤aa∧Nat.blt g Gp=true then(zh kk (fun c a b=>(rF (lU (aB m id (.arr kk et c)) fa) caps).bind fun ps=>M (a::b::ps)) es).bind fun es'=>k (.aV []) f (aB m id (.arr kk et es'))else none
   |none=>none
  |_=>none
 |_=>none
end Go.Ab
