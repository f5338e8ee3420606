import Derived.Test.YtcmhmlnkhmefbaaGreatAbSort
set_option linter.unusedVariables false
namespace Go.Ab
def Wa:PV→Bool
 |.int _ _=>true
 |.bool _=>true
 |.str _=>true
 |_=>false
def ve(r:List PV):PV:=.agg r
def eD(ns:List (List PV)):List PV:=ns.map ve
structure jd(k:Nat)(mH:List PV→PV→PV→Option PV)(ns GY:List (List PV))(cf:List PV→List PV→Int):Prop where
 len:∀a∈ns,a.length=k
 QJ:∀a∈ns,∀p∈a,Wa p=true
 perm:GY.Perm ns
 reads:∀c:List (List PV),c.length=ns.length→(∀x∈c,x∈ns)→∀a∈ns,∀b∈ns,mH (eD c) (ve a) (ve b)=some (.int .i64 (cf a b))
 irrefl:∀a∈ns,¬cf a a<0
 trans:∀a∈ns,∀b∈ns,∀c∈ns,cf a b<0→cf b c<0→cf a c<0
 total:∀a∈ns,∀b∈ns,¬cf a b<0→¬cf b a<0→a=b
 sorted:GY.Pairwise fun a b=>¬cf b a<0
variable{mH:List PV→PV→PV→Option PV}{ns:List (List PV)}
theorem jd.unique{k:Nat}{n1 n2:List (List PV)}{c1 c2:List PV→List PV→Int}(h1:jd k mH ns n1 c1)(h2:jd k mH ns n2 c2):n1=n2:=by
 have hc:∀a∈ns,∀b∈ns,c1 a b=c2 a b:=fun a ha b hb=>by have e1:=h1.reads ns rfl (fun _ h=>h) a ha b hb;have e2:=h2.reads ns rfl (fun _ h=>h) a ha b hb;rw[e1]at e2;simpa using e2
 refine List.Perm.eq_of_pairwise (le:=fun a b=>¬c1 b a<0) (fun a b ha hb h h'=>?_) h1.sorted ?_ (h1.perm.trans h2.perm.symm)
 ·exact h1.total a (h1.perm.mem_iff.1 ha) b (h2.perm.mem_iff.1 hb) h' h
 ·refine h2.sorted.imp_of_mem fun{a b}ha hb h=>?_;rw[hc b (h2.perm.mem_iff.1 hb) a (h2.perm.mem_iff.1 ha)];exact h
noncomputable def tH(k:Nat)(mH:List PV→PV→PV→Option PV)(es:List PV):Option (List PV):= @dite _ (∃ns GY,es=eD ns∧∃cf,jd k mH ns GY cf) (Classical.propDecidable _) (fun h=>some (eD (Classical.choose (Classical.choose_spec h)))) fun _=>none
theorem DK{k:Nat}{es es':List PV}(h:tH k mH es=some es'):∃ns GY cf,es=eD ns∧es'=eD GY∧jd k mH ns GY cf:=by
 unfold tH at h;split at h
 ·rename_i hh;obtain⟨e,cf,hf⟩:=Classical.choose_spec (Classical.choose_spec hh);simp only[Option.some.injEq]at h;exact⟨_,_,cf,e,h.symm,hf⟩
 ·cases h
theorem DL:∀{a b:List (List PV)},eD a=eD b→a=b
 |[],[],_=>rfl
 |[],_::_,h=>by simp[eD]at h
 |_::_,[],h=>by simp[eD]at h
 |x::a,y::b,h=>by simp only[eD,ve,List.map_cons,List.cons.injEq,PV.agg.injEq]at h;rw[h.1,DL h.2]
theorem ON{k:Nat}{GY:List (List PV)}{cf:List PV→List PV→Int}(h:jd k mH ns GY cf):tH k mH (eD ns)=some (eD GY):=by
 have hh:∃n n',eD ns=eD n∧∃cf,jd k mH n n' cf:=⟨ns,GY,rfl,cf,h⟩;cases hs:tH k mH (eD ns)with
 |none=>exfalso;unfold tH at hs;rw[dif_pos hh]at hs;cases hs
 |some es'=>obtain⟨n,n',c,e1,e2,hf⟩:=DK hs;have e1:=DL e1;subst e1;subst e2;rw[hf.unique h]
noncomputable def uV(kk:Nat)(UK:FuncId→Option (List PV→Option PV)):(R:Type)→List V→Fr→Mem→(V→Fr→Mem→Option R)→Option R:=
 fun _ args f m k=>match args with
 |[.os id,.fn g lU]=>match m id with
  |some (.arr sz et es)=>match UK g with
   |some M=>if sz=kk∧es.length≤aa then(tH kk (fun c a b=>(nZ (jj (an m id (.arr kk et c)) eG) lU).bind fun ps=>M (a::b::ps)) es).bind fun es'=>k (.bm []) f (an m id (.arr kk et es'))else none
   |none=>none
  |_=>none
 |_=>none
end Go.Ab
