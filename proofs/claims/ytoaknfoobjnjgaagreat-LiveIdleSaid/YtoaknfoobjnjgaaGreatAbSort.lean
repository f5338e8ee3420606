import Derived.Test.YtoaknfoobjnjgaaGreatAbSeat
set_option linter.all false
namespace Go.Ab
def ints(ns:List Int):List PV:=ns.map (.int .i64)
structure HL(rq:List PV→PV→PV→Option PV)(ns Oj:List Int)(cf:Int→Int→Int):Prop where
 perm:Oj.Perm ns
 reads:∀c:List Int,c.length=ns.length→(∀x∈c,x∈ns)→∀a∈ns,∀b∈ns,rq (ints c) (.int .i64 a) (.int .i64 b)=some (.int .i64 (cf a b))
 irrefl:∀a∈ns,¬cf a a<0
 trans:∀a∈ns,∀b∈ns,∀c∈ns,cf a b<0→cf b c<0→cf a c<0
 total:∀a∈ns,∀b∈ns,¬cf a b<0→¬cf b a<0→a=b
 sorted:Oj.Pairwise fun a b=>¬cf b a<0
theorem HL.unique{rq:List PV→PV→PV→Option PV}{ns n1 n2:List Int}{c1 c2:Int→Int→Int}(h1:HL rq ns n1 c1)(h2:HL rq ns n2 c2):n1=n2:=by
 have hc:∀a∈ns,∀b∈ns,c1 a b=c2 a b:=fun a ha b hb=>by have e1:=h1.reads ns rfl (fun _ h=>h) a ha b hb;have e2:=h2.reads ns rfl (fun _ h=>h) a ha b hb;rw[e1]at e2;simpa using e2
 refine aqf (le:=fun a b=>¬c1 b a<0) (fun a b ha hb h h'=>?_) h1.sorted ?_ (h1.perm.trans h2.perm.symm)
 ·exact h1.total a (h1.perm.mem_iff.1 ha) b (h2.perm.mem_iff.1 hb) h' h
 ·refine h2.sorted.imp_of_mem fun{a b}ha hb h=>?_;rw[hc b (h2.perm.mem_iff.1 hb) a (h2.perm.mem_iff.1 ha)];exact h
end Go.Ab
