import Derived.Test.YtoaknfoobjnjgaaGreatAbSort
set_option linter.all false
namespace Go.Ab
def afc:PV→Bool
 |.int _ _=>true
 |.bool _=>true
 |.str _=>true
 |_=>false
def CM(r:List PV):PV:=.agg r
def fu(ns:List (List PV)):List PV:=ns.map CM
structure lz(k:Nat)(rQ:List PV→PV→PV→Option PV)(ns Px:List (List PV))(cf:List PV→List PV→Int):Prop where
 len:∀a∈ns,a.length=k
 WH:∀a∈ns,∀p∈a,afc p=true
 perm:Px.Perm ns
 reads:∀c:List (List PV),c.length=ns.length→(∀x∈c,x∈ns)→∀a∈ns,∀b∈ns,rQ (fu c) (CM a) (CM b)=some (.int .i64 (cf a b))
 irrefl:∀a∈ns,¬cf a a<0
 trans:∀a∈ns,∀b∈ns,∀c∈ns,cf a b<0→cf b c<0→cf a c<0
 total:∀a∈ns,∀b∈ns,¬cf a b<0→¬cf b a<0→a=b
 sorted:Px.Pairwise fun a b=>¬cf b a<0
variable{rQ:List PV→PV→PV→Option PV}{ns:List (List PV)}
theorem lz.unique{k:Nat}{n1 n2:List (List PV)}{c1 c2:List PV→List PV→Int}(h1:lz k rQ ns n1 c1)(h2:lz k rQ ns n2 c2):n1=n2:=by
 have hc:∀a∈ns,∀b∈ns,c1 a b=c2 a b:=fun a ha b hb=>by have e1:=h1.reads ns rfl (fun _ h=>h) a ha b hb;have e2:=h2.reads ns rfl (fun _ h=>h) a ha b hb;rw[e1]at e2;simpa using e2
 refine aqJ (le:=fun a b=>¬c1 b a<0) (fun a b ha hb h h'=>?_) h1.sorted ?_ (h1.perm.trans h2.perm.symm)
 ·exact h1.total a (h1.perm.mem_iff.1 ha) b (h2.perm.mem_iff.1 hb) h' h
 ·refine h2.sorted.imp_of_mem fun{a b}ha hb h=>?_;rw[hc b (h2.perm.mem_iff.1 hb) a (h2.perm.mem_iff.1 ha)];exact h
noncomputable def Bc(k:Nat)(rQ:List PV→PV→PV→Option PV)(es:List PV):Option (List PV):=if es.isEmpty=true then some []else @dite _ (∃ns Px,es=fu ns∧∃cf,lz k rQ ns Px cf) (Classical.propDecidable _) (fun h=>some (fu (Classical.choose (Classical.choose_spec h)))) fun _=>none
theorem L3{k:Nat}{es es':List PV}(h:Bc k rQ es=some es'):∃ns Px cf,es=fu ns∧es'=fu Px∧lz k rQ ns Px cf:=by
 unfold Bc at h;split at h
 ·rename_i he;cases h;have he:es=[]:=by simpa using he
  subst he;exact⟨[],[],fun _ _=>0,rfl,rfl,{len:=fun a ha=>(by cases ha),WH:=fun a ha=>(by cases ha),perm:=List.Perm.refl _,reads:=fun _ _ _ a ha=>(by cases ha),irrefl:=fun a ha=>(by cases ha),trans:=fun a ha=>(by cases ha),total:=fun a ha=>(by cases ha),sorted:=List.Pairwise.nil}⟩
 split at h
 ·rename_i hh;obtain⟨e,cf,hf⟩:=Classical.choose_spec (Classical.choose_spec hh);simp only[tb]at h;exact⟨_,_,cf,e,h.symm,hf⟩
 ·cases h
theorem L4:∀{a b:List (List PV)},fu a=fu b→a=b
 |[],[],_=>rfl
 |[],_::_,h=>by simp[fu]at h
 |_::_,[],h=>by simp[fu]at h
 |x::a,y::b,h=>by simp only[fu,CM,aog,ao6,PV.agg.injEq]at h;rw[h.1,L4 h.2]
theorem Xj{k:Nat}{Px:List (List PV)}{cf:List PV→List PV→Int}(h:lz k rQ ns Px cf):Bc k rQ (fu ns)=some (fu Px):=by
 have hh:∃n n',fu ns=fu n∧∃cf,lz k rQ n n' cf:=⟨ns,Px,rfl,cf,h⟩;cases hs:Bc k rQ (fu ns)with
 |none=>
  exfalso;unfold Bc at hs;split at hs
  ·cases hs
  simp[hh]at hs
 |some es'=>obtain⟨n,n',c,e1,e2,hf⟩:=L3 hs;have e1:=L4 e1;subst e1;subst e2;rw[hf.unique h]
noncomputable def Cv(kk:Nat)(clo:FuncId→Option (List PV→Option PV)):(R:Type)→List V→Fr→Mem→(V→Fr→Mem→Option R)→Option R:=
 fun _ args f m k=>match args with
 |[.os id,.fn g caps]=>match m id with
  |some (.arr sz et es)=>match clo g with
   |some M=>if sz=kk∧es.length≤ab∧Nat.blt g Ic=true then(Bc kk (fun c a b=>(sr (l0 (aw m id (.arr kk et c)) eW) caps).bind fun ps=>M (a::b::ps)) es).bind fun es'=>k (.aI []) f (aw m id (.arr kk et es'))else none
   |none=>none
  |_=>none
 |_=>none
end Go.Ab
