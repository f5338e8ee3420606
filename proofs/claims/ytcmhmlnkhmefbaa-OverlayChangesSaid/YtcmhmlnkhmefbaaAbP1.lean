import Derived.Test.YtcmhmlnkhmefbaaAbEval
import Derived.Below
import Derived.Laws.CopyRow
import Derived.Deep.MidRow
set_option linter.unusedVariables false
namespace Go.Ab
open Go.RowKit (Below)
abbrev Ro:=Nat→Option Obj
def PO:Bool:=true
structure iJ(B:Nat)(w w':World):Prop extends Below B w w' where
 drawn:PO=true→w.drawn≤w'.drawn
namespace iJ
theorem refl(B:Nat)(w:World):iJ B w w:=⟨Below.refl B w,fun _=>Nat.le_refl _⟩
theorem trans{B:Nat}{a b c:World}(h:iJ B a b)(k:iJ B b c):iJ B a c:=⟨h.toBelow.trans k.toBelow,fun u=>Nat.le_trans (h.drawn u) (k.drawn u)⟩
theorem mono{B B':Nat}{w w':World}(h:iJ B w w')(hB:B'≤B):iJ B' w w':=⟨h.toBelow.mono hB,h.drawn⟩
theorem drew{B:Nat}{a w:World}(h:iJ B a w):iJ B a w.drew:=⟨h.toBelow.drew,fun u=>Nat.le_succ_of_le (h.drawn u)⟩
theorem heap_alloc(w:World)(o:Obj)(k:Nat)(h:k<w.heap.size):(w.alloc o).heap[k]?=w.heap[k]?:=Below.heap_alloc w o k h
theorem alloc{B:Nat}{a w:World}(h:iJ B a w)(hB:B≤w.heap.size)(o:Obj):iJ B a (w.alloc o):=⟨h.toBelow.alloc hB o,h.drawn⟩
end iJ
def UB.code:UB→Code
 |.ret=>.ret
 |.exit id=>.exit id
def Fo.obj(rc:Loop):Fo→Loop
 |.ready=>{rc with state:=.ready,pending:=none}
 |.busy=>{rc with state:=.busy,pending:=none}
 |.done j=>{rc with state:=.done,pending:=some j.code}
def cellAt(μ:Ro)(b o:Nat):Option Value:=match μ b with|some (.cells c _ _)=>c[o]?|_=>none
def ub(f:FuncId)(xs:Array Value):Value:=if f<xq then .func (.func f) #[] xs else .func (.func (f-xq)) xs #[]
variable{xs:Array Value}
theorem mA{f:FuncId}(h:Nat.blt f xq=true):ub f xs=.func (.func f) #[] xs:=if_pos (by rwa[Nat.blt_eq]at h)
theorem DC{f:FuncId}(h:Nat.blt f xq=false):ub f xs=.func (.func (f-xq)) xs #[]:=if_neg (by rw[←Bool.not_eq_true,Nat.blt_eq]at h;exact h)
theorem mB(f:FuncId)(xs:Array Value):∃g a b,ub f xs=.func (.func g) a b:=by
 unfold ub;split
 ·exact⟨_,_,_,rfl⟩
 ·exact⟨_,_,_,rfl⟩
theorem AU(f:FuncId)(xs:Array Value):(ub f xs).oneCell'=true:=by obtain⟨g,a,b,h⟩:=mB f xs;rw[h];rfl
inductive af(P:Program)(μ:Ro):PV→Value→Prop
 |int {k:IntKind} {n:Int}:(Lit.int k n).wf=true→af P μ (.int k n) (.int k n)
 |bool {b:Bool}:af P μ (.bool b) (.bool b)
 |str {s:Bytes}:s.length≤maxLen→af P μ (.str s) (.string ⟨s.toArray⟩)
 |agg {cs:List PV} {xs:Array Value}:cs.length=xs.size→(∀(i:Nat)p x,cs[i]?=some p→xs[i]?=some x→af P μ p x)→(∀(i:Nat)(x:Value),xs[i]?=some x→x.oneCell'=true)→af P μ (.agg cs) (.agg xs)
 |bA {cs:List PV} {xs:Array Value}:cs.length=xs.size→(∀(i:Nat)p x,cs[i]?=some p→xs[i]?=some x→af P μ p x)→af P μ (.bA cs) (.tuple xs)
 |lS:af P μ .lS (.pointer none)
 |rp {cs:List PV} {b o:Nat} (X:Nat→Value):(∀(i:Nat)p,cs[i]?=some p→cellAt μ b (o+i)=some (X i))→(∀(i:Nat)p,cs[i]?=some p→af P μ p (X i))→(∀i:Nat,i<cs.length→(X i).oneCell'=true)→af P μ (.rp cs) (.pointer (some ⟨b,o,none⟩))
 |iC {sz:Nat}:af P μ (.rs sz []) (.slice none 0 0)
 |Dg {sz cap:Nat} {a:Addr}:cap≤maxLen→af P μ (.rs sz []) (.slice (some a) 0 cap)
 |rs {sz:Nat} {es:List PV} {b o cap:Nat} (X:Nat→Nat→Value):es.length≤cap→cap≤maxLen→(∀(i:Nat)e,es[i]?=some e→e.cells.length=sz)→(∀(i:Nat)e(j:Nat)p,es[i]?=some e→e.cells[j]?=some p→cellAt μ b (o+i*sz+j)=some (X i j))→(∀(i:Nat)e(j:Nat)p,es[i]?=some e→e.cells[j]?=some p→af P μ p (X i j))→(∀(i:Nat)e(j:Nat)p,es[i]?=some e→e.cells[j]?=some p→(X i j).oneCell'=true)→af P μ (.rs sz es) (.slice (some ⟨b,o,none⟩) es.length cap)
 |qm:af P μ .qm (.map none)
 |rm {kt:TypeId} {ks vs:List PV} {b clock:Nat} {en:Array MapEntry} {kk:List Kd}:μ b=some (.map en clock)→en.size=ks.length→vs.length=ks.length→nB P kt=some kk→(∀(i:Nat)k,ks[i]?=some k→pU P kt kk k=true)→(∀(i:Nat)k e,ks[i]?=some k→en[i]?=some e→af P μ k e.key)→(∀(i:Nat)v e,vs[i]?=some v→en[i]?=some e→af P μ v e.val)→af P μ (.rm kt ks vs) (.map (some b))
 |vb:af P μ .vb .nilFunc
 |fn {f:FuncId} {cs:List PV} {xs:Array Value}:cs.length=xs.size→(∀(i:Nat)p x,cs[i]?=some p→xs[i]?=some x→af P μ p x)→af P μ (.fn f cs) (ub f xs)
 |Mu:af P μ (.Pv false) .nilIface
 |PQ {t:TypeId} {x:Value}:af P μ (.Pv true) (.iface t x)
 |bad {x:Value}:af P μ .bad x
structure sE(P:Program)(μ:Ro)(g:Nat)(cs:List PV):Prop where
 rep:af P μ (.rp cs) (.pointer (some ⟨g,0,none⟩))
 size:∃c T z,μ g=some (.cells c T z)∧c.size=cs.length
structure wC where
 g:Option Nat
 cap:Nat
 len:Nat
 sz:Nat
 deriving Inhabited
structure aw extends wC where
 row:Nat→Nat→wC:=fun _ _=>default
 deriving Inhabited
abbrev xt(g:Option Nat)(cap len sz:Nat):aw:={g,cap,len,sz}
def wC.up(p:wC):aw:={towC:=p}
inductive ab(P:Program)(μ:Ro)(φ:Nat→aw):V→Value→Prop
 |pv {p:PV} {x:Value}:af P μ p x→ab P μ φ (.pv p) x
 |aX:ab P μ φ .aX (.slice none 0 0)
 |op {id off g:Nat}:(φ id).g=some g→ab P μ φ (.op id off) (.pointer (some ⟨g,off,none⟩))
 |oe {id i off g:Nat}:(φ id).g=some g→ab P μ φ (.oe id i off) (.pointer (some ⟨g,i*(φ id).sz+off,none⟩))
 |np {id:Nat}:(φ id).g=none→ab P μ φ (.os id) (.slice none 0 0)
 |os {id g:Nat}:(φ id).g=some g→ab P μ φ (.os id) (.slice (some ⟨g,0,none⟩) (φ id).len (φ id).cap)
 |my {id:Nat}:(φ id).g=none→ab P μ φ (.eR id 0 0) (.slice none 0 0)
 |eR {id lo len cap g:Nat} {a:Addr}:(φ id).g=some g→lo+len≤(φ id).len→(a=⟨g,lo*(φ id).sz,none⟩∨((φ id).cap=lo∧0<lo))→len≤cap→lo+cap≤(φ id).cap→ab P μ φ (.eR id lo len) (.slice (some a) len cap)
 |Ci {id i off:Nat}:((φ id).row i off).g=none→ab P μ φ (.qD id i off) (.slice none 0 0)
 |qD {id i off g:Nat}:((φ id).row i off).g=some g→ab P μ φ (.qD id i off) (.slice (some ⟨g,0,none⟩) ((φ id).row i off).len ((φ id).row i off).cap)
 |tP {id i off s j off2 g:Nat}:((φ id).row i off).g=some g→((φ id).row i off).sz=s→ab P μ φ (.tP id i off s j off2) (.pointer (some ⟨g,j*s+off2,none⟩))
 |om {id g:Nat}:(φ id).g=some g→ab P μ φ (.om id) (.map (some g))
 |yl {id g:Nat}:(φ id).g=some g→ab P μ φ (.yl id) (.func (.yield g) #[] #[])
 |it {id g:Nat}:(φ id).g=some g→ab P μ φ (.it id) (.pointer (some ⟨g,0,none⟩))
 |fn {f:FuncId} {cs:List V} {xs:Array Value}:cs.length=xs.size→(∀(i:Nat)p x,cs[i]?=some p→xs[i]?=some x→ab P μ φ p x)→ab P μ φ (.fn f cs) (ub f xs)
 |agg {cs:List V} {xs:Array Value}:cs.length=xs.size→(∀(i:Nat)p x,cs[i]?=some p→xs[i]?=some x→ab P μ φ p x)→(∀(i:Nat)(x:Value),xs[i]?=some x→x.oneCell'=true)→ab P μ φ (.agg cs) (.agg xs)
 |bA {cs:List V} {xs:Array Value}:cs.length=xs.size→(∀(i:Nat)p x,cs[i]?=some p→xs[i]?=some x→ab P μ φ p x)→ab P μ φ (.bA cs) (.tuple xs)
 |top {x:Value}:ab P μ φ .top x
def ay(P:Program)(μ:Ro)(φ:Nat→aw)(w:World)(id sz:Nat)(et:TypeId)(es:List PV):Prop:=
 (φ id).len=es.length∧(φ id).sz=sz∧sz=aH P et∧0<sz∧(∀(i:Nat)e,es[i]?=some e→e.cells.length=sz)∧(φ id).cap≤maxLen∧
 match(φ id).g with
 |none=>es=[]∧(φ id).cap=0
 |some g=>∃(c:Array Value)(T:TypeId),w.heap[g]?=some (.cells c T (0,0))∧(φ id).cap*sz≤c.size∧es.length≤(φ id).cap∧(∀(i:Nat)e(j:Nat)p x,es[i]?=some e→e.cells[j]?=some p→c[i*sz+j]?=some x→af P μ p x)∧(∀(i:Nat)(x:Value),i<es.length*sz→c[i]?=some x→x.oneCell'=true)
def bn.rowAt:bn→Nat→Nat→Bool
 |.nest _ _ es,i,off=>match es[i]? with
  |some e=>match e.cells[off]? with
   |some p=>p.isRow
   |none=>false
  |none=>false
 |.eG _ _ es,i,0=>match es[i]? with
  |some x=>x.2.isRow
  |none=>false
 |_,_,_=>false
def eu(P:Program)(μ:Ro)(R:wC)(w:World)(s:Nat)(rs:List PV)(x:Value):Prop:=(∃et,ay P μ (fun _=>R.up) w 0 s et rs)∧ab P μ (fun _=>R.up) (.os 0) x
def dW(P:Program)(μ:Ro)(R:wC)(w:World)(p:PV)(x:Value):Prop:=match p with
 |.gC s rs=>eu P μ R w s rs x
 |p=>af P μ p x
def aL(P:Program)(μ:Ro)(φ:Nat→aw)(w:World)(id sz:Nat)(et:TypeId)(es:List PV):Prop:=
 (φ id).len=es.length∧(φ id).sz=sz∧sz=aH P et∧0<sz∧(∀(i:Nat)e,es[i]?=some e→e.cells.length=sz)∧(φ id).cap≤maxLen∧
 match(φ id).g with
 |none=>es=[]∧(φ id).cap=0
 |some g=>∃(c:Array Value)(T:TypeId),w.heap[g]?=some (.cells c T (0,0))∧(φ id).cap*sz≤c.size∧es.length≤(φ id).cap∧(∀(i:Nat)e(j:Nat)p x,es[i]?=some e→e.cells[j]?=some p→c[i*sz+j]?=some x→dW P μ ((φ id).row i j) w p x)∧(∀(i:Nat)(x:Value),i<es.length*sz→c[i]?=some x→x.oneCell'=true)
def jc(en:Array MapEntry)(clock:Nat):Prop:=∀(i:Nat)e,en[i]?=some e→e.born<clock∧∀(j:Nat)e',en[j]?=some e'→e'.born=e.born→j=i
def iN(en:Array MapEntry)(seen:Array Nat):List MapEntry:=en.toList.filter fun e=> !seen.contains e.born
def fm(P:Program)(μ:Ro)(φ:Nat→aw)(w:World)(id:Nat):bn→Prop
 |.box cs=>∃(g:Nat)(c:Array Value)(T:TypeId),(φ id).g=some g∧w.heap[g]?=some (.cells c T (0,0))∧c.size=cs.length∧(∀(i:Nat)v x,cs[i]?=some v→c[i]?=some x→ab P μ φ v x)∧(∀(i:Nat)(x:Value),c[i]?=some x→x.oneCell'=true)∧(φ id).len=cs.length
 |.arr sz et es=>ay P μ φ w id sz et es
 |.l6 sz et es=>ay P μ φ w id sz et es∧∀g,(φ id).g=some g→(μ g).isSome
 |.map kt es=>∃(g:Nat)(en:Array MapEntry)(clock:Nat)(kk:List Kd),(φ id).g=some g∧w.heap[g]?=some (.map en clock)∧en.size=es.length∧nB P kt=some kk∧(∀(i:Nat)k v,es[i]?=some (k,v)→pU P kt kk k=true)∧jc en clock∧(∀(i:Nat)k v e,es[i]?=some (k,v)→en[i]?=some e→af P μ k e.key∧af P μ v e.val)
 |.nest sz et es=>aL P μ φ w id sz et es
 |.eG kt e0 es=>∃(g:Nat)(en:Array MapEntry)(clock:Nat)(kk:List Kd),(φ id).g=some g∧w.heap[g]?=some (.map en clock)∧en.size=es.length∧nB P kt=some kk∧(∀(i:Nat)k v,es[i]?=some (k,v)→pU P kt kk k=true)∧jc en clock∧(∀(i:Nat)k v e,es[i]?=some (k,v)→en[i]?=some e→af P μ k e.key∧(match v with
  |.gC s rs=>ay P μ (fun _=>((φ id).row i 0).up) w 0 s e0 rs∧ab P μ (fun _=>((φ id).row i 0).up) (.os 0) e.val
  |v=>af P μ v e.val))
 |.iter t es cur=>∃(g mg:Nat)(en:Array MapEntry)(clock:Nat)(seen:Array Nat),(φ id).g=some g∧w.heap[g]?=some (.mapIter (some mg) clock seen clock)∧μ mg=some (.map en clock)∧jc en clock∧(iN en seen).length=es.length∧(∀(i:Nat)k v e,es[i]?=some (k,v)→(iN en seen)[i]?=some e→af P μ k e.key∧af P μ v e.val)∧∀k v,cur=some (k,v)→∃(i:Nat)(e:MapEntry),en[i]?=some e∧seen.back? =some e.born∧af P μ k e.key∧af P μ v e.val
 |.loop st=>∃(g:Nat)(rc:Loop),(φ id).g=some g∧w.heap[g]?=some (.loop (st.obj rc))
def bn.gF:bn→Bool
 |.l6 .. =>false
 |_=>true
structure bg where
 w:World
 mu:Ro
 sv:Nat→Value
 dt:Ro:=fun _=>none
 jG:Ro:=fun _=>none
 rc:Nat→Option (Nat×Loop):=fun _=>none
abbrev bg.heap(B:bg):Array Obj:=B.w.heap
def bn.owns(b:bn)(p:aw)(g:Nat):Prop:=p.g=some g∨∃i off,b.rowAt i off=true∧(p.row i off).g=some g
def bn.apart(b:bn)(p:aw):Prop:=∀i off g,b.rowAt i off=true→(p.row i off).g=some g→p.g≠some g∧∀i' nS,b.rowAt i' nS=true→(p.row i' nS).g=some g→i'=i∧nS=off
structure al(P:Program)(G:Nat→Option (List PV))(w0:bg)(μ:Ro)(φ:Nat→aw)(m:Mem)(w:World):Prop where
 below:iJ w0.heap.size w0.w w
 ro:∀b o,μ b=some o→w.heap[b]?=some o
 ax:∀g cs,G g=some cs→sE P μ g cs
 dq:∀id b,m id=some b→fm P μ φ w id b
 own:∀id b g,m id=some b→b.owns (φ id) g→w0.heap.size≤g∧(b.gF=true→μ g=none)
 inj:∀LS id2 b1 b2 g,m LS=some b1→m id2=some b2→b1.owns (φ LS) g→b2.owns (φ id2) g→LS=id2
 apart:∀id b,m id=some b→b.apart (φ id)
 eT:∀j cs id,m j=some (.box cs)→bO id cs=true→(m id).isSome=true
 base:∀b o,μ b=some o→b<w0.heap.size→w0.mu b=some o
 dt:∀b o,w0.dt b=some o→μ b=some o
 wB:∀id st,m id=some (.loop st)→∃g rc,(φ id).g=some g∧w0.rc id=some (g,rc)∧w.heap[g]?=some (.loop (st.obj rc))
def aG(nt:Nat)(w0:bg)(a:Act):Nat→Value:=fun t=>if t<nt then a.tmps.getD t undef else w0.sv t
theorem mw{nt:Nat}{w0:bg}{a:Act}{t:Nat}(h:t<nt):aG nt w0 a t=a.tmps.getD t undef:=if_pos h
def Marks(B:Nat)(jG μ:Ro)(ds:List Deferred):Prop:=∃Ds:List Nat,ds=Ds.map (fun D=>{target:=.collected D,args:= #[]})∧Ds.Nodup∧∀D∈Ds,B≤D∧jG D=none∧μ D=some (.deferred (some []))
theorem Marks.nil(B:Nat)(jG μ:Ro):Marks B jG μ []:=⟨[],rfl,.nil,by simp⟩
theorem Marks.mono{B:Nat}{jG μ μ':Ro}(h:∀b o,μ b=some o→μ' b=some o){ds:List Deferred}:Marks B jG μ ds→Marks B jG μ' ds
 |⟨Ds,e,hn,hD⟩=>⟨Ds,e,hn,fun D hd=>⟨(hD D hd).1,(hD D hd).2.1,h _ _ (hD D hd).2.2⟩⟩
structure Rel(P:Program)(G:Nat→Option (List PV))(nt:Nat)(w0:bg)(μ:Ro)(φ:Nat→aw)(f:Fr)(m:Mem)(a:Act)(w:World):Prop extends al P G w0 μ φ m w where
 size:a.tmps.size=nt
 defers:Marks w0.heap.size w0.jG μ a.defers
 jG:∀b o,w0.jG b=some o→w0.dt b=some o
 fr:∀t,ab P μ φ (f t) (aG nt w0 a t)
 live:∀t id,(f t).has id=true→(m id).isSome=true
section
variable {P:Program} {μ μ':Ro} {φ φ':Nat→aw}
variable{x:Value}
theorem wE(h:∀b o,μ b=some o→μ' b=some o){b o:Nat}(hx:cellAt μ b o=some x):cellAt μ' b o=some x:=by
 unfold cellAt at*;split at hx
 ·rename_i c t fz hb;rw[h _ _ hb];exact hx
 ·cases hx
variable{p:PV}
theorem af.mono(h:∀b o,μ b=some o→μ' b=some o)(hp:af P μ p x):af P μ' p x:=by
 induction hp with
 |int h=>exact .int h
 |bool=>exact .bool
 |str h=>exact .str h
 |agg h1 _ h3 ih=>exact .agg h1 ih h3
 |bA h1 _ ih=>exact .bA h1 ih
 |lS=>exact .lS
 |rp X h1 _ h3 ih=>exact .rp X (fun i p hi=>wE h (h1 i p hi)) ih h3
 |iC=>exact .iC
 |Dg h=>exact .Dg h
 |rs X h1 h2 h3 h4 _ h6 ih=>exact .rs X h1 h2 h3 (fun i e j p hi hj=>wE h (h4 i e j p hi hj)) ih h6
 |qm=>exact .qm
 |rm h1 h2 h3 h4 h5 _ _ ih1 ih2=>exact .rm (h _ _ h1) h2 h3 h4 h5 ih1 ih2
 |vb=>exact .vb
 |fn h1 _ ih=>exact .fn h1 ih
 |Mu=>exact .Mu
 |PQ=>exact .PQ
 |bad=>exact .bad
theorem sE.mono(h:∀b o,μ b=some o→μ' b=some o){g:Nat}{cs:List PV}(hv:sE P μ g cs):sE P μ' g cs:=⟨hv.rep.mono h,let⟨c,T,z,h1,h2⟩:=hv.size;⟨c,T,z,h _ _ h1,h2⟩⟩
theorem bw{id:Nat}{v:V}:∀{cs:List V},v∈cs→v.has id=true→bO id cs=true
 |c::r,hm,hv=>by
  rcases List.mem_cons.1 hm with rfl|hm
  ·simp[bO,hv]
  ·simp[bO,bw hm hv]
theorem cw{id:Nat}:∀{cs:List V},bO id cs=true↔∃v∈cs,v.has id=true
 |[]=>by simp[bO]
 |c::r=>by simp[bO,cw (cs:=r)]
theorem rR{id:Nat}{v:V}:∀{cs:List V},v∈cs→v.qo id=true→tR id cs=true
 |c::r,hm,hv=>by
  rcases List.mem_cons.1 hm with rfl|hm
  ·simp[tR,hv]
  ·simp[tR,rR hm hv]
theorem ab.mono(h:∀b o,μ b=some o→μ' b=some o){v:V}{x:Value}(hv:ab P μ φ v x)(hφ:∀id,v.has id=true→φ' id=φ id):ab P μ' φ' v x:=by
 induction hv with
 |pv hp=>exact .pv (hp.mono h)
 |aX=>exact .aX
 |op hg=>exact .op (by rw[hφ _ (by simp[V.has])];exact hg)
 | @oe id i off g hg=>have e:=hφ id (by simp[V.has]);have:=ab.oe (P:=P) (μ:=μ') (φ:=φ') (id:=id) (i:=i) (off:=off) (g:=g) (by rw[e];exact hg);rw[e]at this;exact this
 | @np id hg=>exact .np (by rw[hφ id (by simp[V.has])];exact hg)
 | @os id g hg=>have e:=hφ id (by simp[V.has]);have:=ab.os (P:=P) (μ:=μ') (φ:=φ') (id:=id) (g:=g) (by rw[e];exact hg);rw[e]at this;exact this
 | @my id hg=>exact .my (by rw[hφ id (by simp[V.has])];exact hg)
 | @eR id lo len cap g a hg hl ha hc Ms=>have e:=hφ id (by simp[V.has]);exact ab.eR (P:=P) (μ:=μ') (φ:=φ') (id:=id) (lo:=lo) (len:=len) (cap:=cap) (g:=g) (a:=a) (by rw[e];exact hg) (by rw[e];exact hl) (by rw[e];exact ha) hc (by rw[e];exact Ms)
 | @Ci id i off hg=>exact .Ci (by rw[hφ id (by simp[V.has])];exact hg)
 | @qD id i off g hg=>have e:=hφ id (by simp[V.has]);have:=ab.qD (P:=P) (μ:=μ') (φ:=φ') (id:=id) (i:=i) (off:=off) (g:=g) (by rw[e];exact hg);rw[e]at this;exact this
 | @tP id i off s j off2 g hg hs=>have e:=hφ id (by simp[V.has]);exact .tP (by rw[e];exact hg) (by rw[e];exact hs)
 | @om id g hg=>exact .om (by rw[hφ id (by simp[V.has])];exact hg)
 | @yl id g hg=>exact .yl (by rw[hφ id (by simp[V.has])];exact hg)
 | @it id g hg=>exact .it (by rw[hφ id (by simp[V.has])];exact hg)
 |fn h1 _ ih=>exact .fn h1 (fun i p x hi hx=>ih i p x hi hx (fun id hid=>hφ id (by simp only[V.has];exact bw (List.mem_of_getElem? hi) hid)))
 |agg h1 _ h3 ih=>exact .agg h1 (fun i p x hi hx=>ih i p x hi hx (fun id hid=>hφ id (by simp only[V.has];exact bw (List.mem_of_getElem? hi) hid))) h3
 |bA h1 _ ih=>exact .bA h1 (fun i p x hi hx=>ih i p x hi hx (fun id hid=>hφ id (by simp only[V.has];exact bw (List.mem_of_getElem? hi) hid)))
 |top=>exact .top
variable{v:V}
theorem ab.Rr(h:∀b o,μ b=some o→μ' b=some o)(hv:ab P μ φ v x)(hφ:∀id,v.has id=true→(φ' id).towC=(φ id).towC∧(v.qo id=true→φ' id=φ id)):ab P μ' φ' v x:=by
 induction hv with
 |pv hp=>exact .pv (hp.mono h)
 |aX=>exact .aX
 |op hg=>exact .op (by rw[(hφ _ (by simp[V.has])).1];exact hg)
 | @oe id i off g hg=>have e:=(hφ id (by simp[V.has])).1;have:=ab.oe (P:=P) (μ:=μ') (φ:=φ') (id:=id) (i:=i) (off:=off) (g:=g) (by rw[e];exact hg);rw[e]at this;exact this
 | @np id hg=>exact .np (by rw[(hφ id (by simp[V.has])).1];exact hg)
 | @os id g hg=>have e:=(hφ id (by simp[V.has])).1;have:=ab.os (P:=P) (μ:=μ') (φ:=φ') (id:=id) (g:=g) (by rw[e];exact hg);rw[e]at this;exact this
 | @my id hg=>exact .my (by rw[(hφ id (by simp[V.has])).1];exact hg)
 | @eR id lo len cap g a hg hl ha hc Ms=>have e:=(hφ id (by simp[V.has])).1;exact ab.eR (P:=P) (μ:=μ') (φ:=φ') (id:=id) (lo:=lo) (len:=len) (cap:=cap) (g:=g) (a:=a) (by rw[e];exact hg) (by rw[e];exact hl) (by rw[e];exact ha) hc (by rw[e];exact Ms)
 | @Ci id i off hg=>exact .Ci (by rw[(hφ id (by simp[V.has])).2 (by simp[V.qo])];exact hg)
 | @qD id i off g hg=>have e:=(hφ id (by simp[V.has])).2 (by simp[V.qo]);have:=ab.qD (P:=P) (μ:=μ') (φ:=φ') (id:=id) (i:=i) (off:=off) (g:=g) (by rw[e];exact hg);rw[e]at this;exact this
 | @tP id i off s j off2 g hg hs=>have e:=(hφ id (by simp[V.has])).2 (by simp[V.qo]);exact .tP (by rw[e];exact hg) (by rw[e];exact hs)
 | @om id g hg=>exact .om (by rw[(hφ id (by simp[V.has])).1];exact hg)
 | @yl id g hg=>exact .yl (by rw[(hφ id (by simp[V.has])).1];exact hg)
 | @it id g hg=>exact .it (by rw[(hφ id (by simp[V.has])).1];exact hg)
 |fn h1 _ ih=>exact .fn h1 (fun i p x hi hx=>ih i p x hi hx (fun id hid=>⟨(hφ id (by simp only[V.has];exact bw (List.mem_of_getElem? hi) hid)).1,fun h2=>(hφ id (by simp only[V.has];exact bw (List.mem_of_getElem? hi) hid)).2 (by simp only[V.qo];exact rR (List.mem_of_getElem? hi) h2)⟩))
 |agg h1 _ h3 ih=>exact .agg h1 (fun i p x hi hx=>ih i p x hi hx (fun id hid=>⟨(hφ id (by simp only[V.has];exact bw (List.mem_of_getElem? hi) hid)).1,fun h2=>(hφ id (by simp only[V.has];exact bw (List.mem_of_getElem? hi) hid)).2 (by simp only[V.qo];exact rR (List.mem_of_getElem? hi) h2)⟩)) h3
 |bA h1 _ ih=>exact .bA h1 (fun i p x hi hx=>ih i p x hi hx (fun id hid=>⟨(hφ id (by simp only[V.has];exact bw (List.mem_of_getElem? hi) hid)).1,fun h2=>(hφ id (by simp only[V.has];exact bw (List.mem_of_getElem? hi) hid)).2 (by simp only[V.qo];exact rR (List.mem_of_getElem? hi) h2)⟩))
 |top=>exact .top
theorem ab.sF(h:∀b o,μ b=some o→μ' b=some o)(hv:ab P μ φ v x):ab P μ' φ v x:=hv.mono h fun _ _=>rfl
theorem ab.kill(id:Nat)(hv:ab P μ φ v x):ab P μ φ (nC id v) x:=by
 unfold nC;cases v.has id<;>simp
 ·exact hv
 ·exact .top
theorem ab.sG(id:Nat)(hv:ab P μ φ v x):ab P μ φ (kG id v) x:=by
 unfold kG;cases v.qo id<;>simp
 ·exact hv
 ·exact .top
theorem rS{id j:Nat}(h:(kG id v).has j=true):v.has j=true∧(kG id v).qo id=false:=by unfold kG at h⊢;cases hv:v.qo id<;>simp[hv,V.has]at h⊢;exact h
theorem dW.pure{R:wC}{w:World}(h:af P μ p x):dW P μ R w p x:=by
 unfold dW;split
 ·cases h
 ·exact h
theorem dW.IP{R:wC}{w:World}(h:dW P μ R w p x)(hp:p.isRow=false):af P μ p x:=by
 unfold dW at h;split at h
 ·cases hp
 ·exact h
theorem af.xK(h:af P μ p x):p.isRow=false:=by cases h<;>rfl
theorem qM{id j:Nat}(h:(nC id v).has j=true):v.has j=true∧j≠id:=by
 unfold nC at h;cases hv:v.has id<;>simp[hv,V.has]at h
 ·refine⟨h,fun e=>?_⟩;subst e;rw[h]at hv;cases hv
end
end Go.Ab
set_option linter.unusedVariables false
namespace Go.Ab
open Go.RowKit (Below)
section
variable {P:Program} {G:Nat→Option (List PV)} {w0:bg} {μ:Ro} {φ:Nat→aw} {f:Fr} {m:Mem} {w:World}
@[simp] theorem aac(p:PV)(id:Nat):(V.pv p).has id=false:=by simp[V.has]
@[simp] theorem ZW(id:Nat):V.top.has id=false:=by simp[V.has]
@[simp] theorem Vp(id:Nat):V.aX.has id=false:=by simp[V.has]
theorem IQ(cs:List PV)(id:Nat):bO id (cs.map .pv)=false:=by
 induction cs with
 |nil=>rfl
 |cons c r ih=>simp[bO,ih]
theorem pn(k:IntKind)(n:Int):(Lit.int k n).wf=true↔k.min≤n∧n≤k.max:=by simp[Lit.wf]
theorem wf_wrap(k:IntKind)(n:Int):(Lit.int k (k.wrap n)).wf=true:=by rw[pn];cases k<;>simp only[IntKind.wrap,IntKind.min,IntKind.max,IntKind.signed,IntKind.bits]<;>simp<;>(try split)<;>omega
theorem af.one{p:PV}{x:Value}(h:af P μ p x)(h1:∀cs,p≠.agg cs)(h2:∀cs,p≠.bA cs)(h3:p≠.bad):x.oneCell'=true:=by cases h<;>first|rfl|exact AU _ _|exact absurd rfl (h1 _)|exact absurd rfl (h2 _)|exact absurd rfl h3
theorem yu(c:Value):ab P μ φ (vc c) c:=by
 unfold vc;split
 ·split
  ·exact .pv (.int (by assumption))
  ·exact .top
 ·exact .pv .bool
 ·rename_i s;split
  ·exact .pv (.str (by assumption))
  ·exact .top
 ·exact .pv .lS
 ·exact .aX
 ·exact .pv .qm
 ·exact .pv .vb
 ·exact .pv .Mu
 ·exact .top
theorem yw(c:Value)(id:Nat):(vc c).has id=false:=by unfold vc;split<;>(try split)<;>simp
theorem AV(c:Value)(id:Nat):(AL c).has id=false:=by
 unfold AL;split
 ·rename_i cs;split
  ·simp only[V.has];rw[Bool.eq_false_iff];intro h;obtain⟨v,hv,hh⟩:=cw.1 h;obtain⟨x,_,rfl⟩:=List.mem_map.1 hv;rw[yw]at hh;cases hh
  ·simp
 ·exact yw _ _
theorem oN(c:Value):ab P μ φ (AL c) c:=by
 unfold AL;split
 ·rename_i cs;split
  ·rename_i hc;refine .agg (by simp) (fun i p x hi hx=>?_) (fun i x hx=>?_)
   ·simp only[List.getElem?_map,Array.getElem?_toList,hx,Option.map_some,Option.some.injEq]at hi;subst hi;exact yu x
   ·rw[List.all_eq_true]at hc;have:=hc x (by rw[←Array.getElem?_toList]at hx;exact List.mem_of_getElem? hx);cases x<;>first|rfl|(simp at this)
  ·exact .top
 ·exact yu _
end
section
variable {R:Type} {E:Env} {w0:bg} {μ:Ro} {φ:Nat→aw} {f:Fr} {m:Mem} {a:Act} {w:World}
theorem ah(h:Rel E.P E.ax E.fn.ntmps w0 μ φ f m a w)(x:Operand):ab E.P μ φ (bh E f x) (a.eval x)∧∀id,(bh E f x).has id=true→(m id).isSome=true:=by
 cases x with
 |tmp t=>
  simp only[bh];cases e:Nat.blt t E.fn.ntmps with
  |true=>
   have ba:t<E.fn.ntmps:=by rwa[Nat.blt_eq]at e
   have:=h.fr t;rw[mw ba]at this;exact⟨this,h.live t⟩
  |false=>exact⟨.top,fun id hid=>by cases hid⟩
 |const c=>exact⟨oN c,fun id hid=>by simp only[bh]at hid;rw[AV]at hid;cases hid⟩
 |global g=>
  simp only[bh];cases hg:E.ax g with
  |none=>exact⟨.top,by simp⟩
  |some cs=>exact⟨.pv (h.ax g cs hg).rep,by simp⟩
 |func g=>
  simp only[bh];cases e:Nat.blt g xq with
  |true=>refine⟨?_,by simp[V.has,bO]⟩;have:=ab.fn (P:=E.P) (μ:=μ) (φ:=φ) (f:=g) (cs:=[]) (xs:= #[]) (by simp) (by simp);rw[mA e]at this;exact this
  |false=>exact⟨.top,by simp⟩
variable{p:PV}
theorem kT{sz j:Nat}{q:PV}(h:(aA sz p)[j]?=some q):j<sz∧q=cell p j:=by
 unfold aA at h;have key:∀(n o j:Nat),(dL p o n)[j]?=some q→j<n∧q=cell p (o+j):=by
  intro n;induction n with
  |zero=>intro o j hj;simp[dL]at hj
  |succ n ih=>
   intro o j hj;cases j with
   |zero=>simp[dL]at hj;exact⟨by omega,by simp[hj]⟩
   |succ j=>simp only[dL,List.getElem?_cons_succ]at hj;obtain⟨h1,h2⟩:=ih (o+1) j hj;exact⟨by omega,by rw[h2];congr 1;omega⟩
 have:=key sz 0 j h;simpa using this
theorem aN(sz:Nat)(p:PV):(aA sz p).length=sz:=by
 unfold aA;have:∀n o,(dL p o n).length=n:=by
  intro n;induction n with
  |zero=>intro o;rfl
  |succ n ih=>intro o;simp[dL,ih]
 exact this _ _
theorem eK{sz:Nat}(h:p.cells.length=sz):aA sz p=p.cells:=by
 apply List.ext_getElem?;intro j;by_cases hj:j<sz
 ·have h1:j<(aA sz p).length:=by rw[aN];exact hj
  have h2:=kT (List.getElem?_eq_getElem h1);rw[List.getElem?_eq_getElem h1,h2.2,cell,List.getD_eq_getElem?_getD,List.getElem?_eq_getElem (by omega)];rfl
 ·rw[List.getElem?_eq_none (by rw[aN];omega),List.getElem?_eq_none (by omega)]
theorem af.sH{P:Program}{μ:Ro}{n:Nat}{cs:List PV}{x:Value}(h:af P μ (.agg cs) x)(hn:cs.length=n):af P μ (.agg (aA n (.agg cs))) x:=by rw[eK (p:=.agg cs) (by simpa[PV.cells]using hn)];exact h
variable{t:TypeId}{k:PV→Option R}
theorem iV{r:R}(h:fg E t p k=some r):∃q,(∀(R':Type)(k':PV→Option R'),fg E t p k'=k' q)∧k q=some r∧(∀(P:Program)(μ:Ro)x,af P μ p x→af P μ q x)∧q≠.bad∧(∀cs,q≠.bA cs)∧(aq E.P t=false→∀cs,q≠.agg cs):=by
 unfold fg at h;split at h
 ·rename_i q hu;obtain⟨n,hn,hk⟩:=Option.bind_eq_some_iff.1 h;have hp:p=.int q n:=by cases p<;>simp[asInt]at hn;obtain⟨rfl,rfl⟩:=hn;rfl
  exact⟨.int q n,fun R' k'=>by simp[fg,hu,hn],hk,fun P μ x hx=>hp▸hx,by simp,by simp,by simp⟩
 ·rename_i hu;obtain⟨n,hn,hk⟩:=Option.bind_eq_some_iff.1 h;have hp:p=.bool n:=by cases p<;>simp[asBool]at hn;subst hn;rfl
  exact⟨.bool n,fun R' k'=>by simp[fg,hu,hn],hk,fun P μ x hx=>hp▸hx,by simp,by simp,by simp⟩
 ·rename_i hu;obtain⟨n,hn,hk⟩:=Option.bind_eq_some_iff.1 h;have hp:p=.str n:=by cases p<;>simp[dh]at hn;subst hn;rfl
  exact⟨.str n,fun R' k'=>by simp[fg,hu,hn],hk,fun P μ x hx=>hp▸hx,by simp,by simp,by simp⟩
 ·rename_i e hu;obtain⟨es,hn,hk⟩:=Option.bind_eq_some_iff.1 h;refine⟨.rs (aH E.P e) es,fun R' k'=>by simp[fg,hu,hn],hk,fun P μ x hx=>?_,by simp,by simp,by simp⟩;cases p<;>simp[ae]at hn;split at hn
  ·rename_i hs;simp only[Option.some.injEq]at hn;rw[←hs,←hn];exact hx
  ·split at hn
   ·simp only[Option.some.injEq]at hn;subst hn;cases hx with
    |iC=>exact .iC
    |Dg h=>exact .Dg h
    |rs X h1 h2 _ _ _ _=>exact .Dg h2
   ·cases hn
 ·rename_i fs hu;obtain⟨u,hn,hk⟩:=Option.bind_eq_some_iff.1 h;refine⟨_,fun R' k'=>by simp[fg,hu,hn],hk,fun P μ x hx=>?_,by simp,by simp,by simp[aq,hu]⟩;cases p<;>simp[asAgg]at hn;exact hx.sH hn
 ·rename_i n e hu;obtain⟨u,hn,hk⟩:=Option.bind_eq_some_iff.1 h;refine⟨_,fun R' k'=>by simp[fg,hu,hn],hk,fun P μ x hx=>?_,by simp,by simp,by simp[aq,hu]⟩;cases p<;>simp[asAgg]at hn;exact hx.sH hn
 ·rename_i e hu;split at h
  ·exact⟨.lS,fun R' k'=>by simp[fg,hu],h,fun P μ x hx=>hx,by simp,by simp,by simp⟩
  ·rename_i cs;exact⟨.rp cs,fun R' k'=>by simp[fg,hu],h,fun P μ x hx=>hx,by simp,by simp,by simp⟩
  ·cases h
 ·rename_i kt et hu;unfold dF at h;split at h
  ·exact⟨.qm,fun R' k'=>by simp[fg,hu,dF],h,fun P μ x hx=>hx,by simp,by simp,by simp⟩
  ·rename_i qp ks vs;split at h
   ·rename_i he;subst he;exact⟨.rm _ ks vs,fun R' k'=>by simp[fg,hu,dF],h,fun P μ x hx=>hx,by simp,by simp,by simp⟩
   ·cases h
  ·cases h
 ·rename_i ps rs vr hu;split at h
  ·exact⟨.vb,fun R' k'=>by simp[fg,hu],h,fun P μ x hx=>hx,by simp,by simp,by simp⟩
  ·rename_i g cs;exact⟨.fn g cs,fun R' k'=>by simp[fg,hu],h,fun P μ x hx=>hx,by simp,by simp,by simp⟩
  ·cases h
 ·rename_i ms hu;obtain⟨n,hn,hk⟩:=Option.bind_eq_some_iff.1 h;have hp:p=.Pv n:=by cases p<;>simp[IH]at hn;subst hn;rfl
  exact⟨.Pv n,fun R' k'=>by simp[fg,hu,hn],hk,fun P μ x hx=>hp▸hx,by simp,by simp,by simp⟩
 ·cases h
theorem DD{v:V}{k:V→Option R}{r:R}(h:tT E t v k=some r):∃u,(∀(R':Type)(k':V→Option R'),tT E t v k'=k' u)∧k u=some r∧(∀(P:Program)(μ:Ro)(φ:Nat→aw)x,ab P μ φ v x→ab P μ φ u x)∧(∀id,u.has id=true→v.has id=true):=by
 unfold tT at h;split at h
 ·obtain⟨q,h1,h2,h3,_⟩:=iV h;exact⟨.pv q,fun R' k'=>by simp[tT,h1],h2,fun P μ φ x hx=>by cases hx with|pv hp=>exact .pv (h3 _ _ _ hp),by simp⟩
 ·cases h
 ·rename_i h1 h2;split at h
  ·rename_i hu;refine⟨v,fun R' k'=>?_,h,fun _ _ _ _ hx=>hx,fun _ h=>h⟩;unfold tT;cases v<;>first|(simp only[hu,if_true];done)|exact absurd rfl (h1 _)|exact absurd rfl h2
  ·cases h
theorem qN{r:R}(h:fg E t p k=some r):∃d,E.P.underlying t=some d:=by
 unfold fg at h;cases hq:E.P.underlying t with
 |none=>simp[hq]at h
 |some d=>exact⟨d,rfl⟩
theorem AW{v:V}{k:V→Option R}{r:R}(h:tT E t v k=some r):∃d,E.P.underlying t=some d:=by
 unfold tT at h;split at h
 ·exact qN h
 ·cases h
 ·split at h
  ·rename_i hu;exact Option.isSome_iff_exists.1 hu
  ·cases h
end
end Go.Ab
set_option linter.unusedVariables false
namespace Go.Ab
open Go.RowKit (Below)
section
variable {P:Program} {G:Nat→Option (List PV)} {w0:bg} {μ:Ro} {φ:Nat→aw} {m:Mem} {w:World}
variable{t:TypeId}{d:TypeDesc}
theorem wF(h:P.underlying t=some d):(P.info? t).map (·.size)=some (aH P t):=by
 unfold Program.underlying at h;cases hi:P.info? t with
 |none=>simp[hi]at h
 |some i=>simp[aH,hi]
theorem yy(h:aq P t=true):∃d,P.underlying t=some d∧d.isRow=true:=by
 unfold aq at h;split at h
 ·rename_i fs hu;exact⟨_,hu,rfl⟩
 ·rename_i n e hu;exact⟨_,hu,rfl⟩
 ·cases h
theorem vp(hu:P.underlying t=some d):(isAgg t).run P w=.ok (aq P t) w:=by unfold isAgg;simp only[Sem.run_bind,run_underlying hu,Result.andThen_ok,aq,hu];cases d<;>rfl
theorem wG(hu:P.underlying t=some d):(sizeOf t).run P w=.ok (aH P t) w:=by
 have:=wF hu;cases hi:P.info? t with
 |none=>simp[hi]at this
 |some i=>simp[sizeOf,typeInfo,hi,aH]
variable{o:Nat}
theorem fI{b:Nat}{y:Value}(hu:P.underlying t=some d)(ha:aq P t=false)(hc:w.cell? ⟨b,o,none⟩=some y):(Instr.loadAt t (.pointer (some ⟨b,o,none⟩))).run P w=.ok y w:=by simp only[Instr.loadAt,Instr.sureAddr,loadVar,Sem.run_bind,Sem.run_pure,Result.andThen_ok,vp hu,ha];simp[load,Sem.run,hc]
theorem jO{b:Nat}{cs:List Value}(ha:aq P t=true)(hc:w.rangeAt b o cs)(hl:cs.length=aH P t):(Instr.loadAt t (.pointer (some ⟨b,o,none⟩))).run P w=.ok (.agg cs.toArray) w:=by obtain⟨d,hu,hd⟩:=yy ha;exact run_loadAt_mid w b o t cs d hc hu hd (by rw[wF hu,hl])
theorem al.cellAt(hM:al P G w0 μ φ m w){b o:Nat}{x:Value}(h:cellAt μ b o=some x):w.cell? ⟨b,o,none⟩=some x:=by
 unfold Go.Ab.cellAt at h;split at h
 ·rename_i c t fz hb;simp[World.cell?,hM.ro _ _ hb,h]
 ·cases h
theorem db{g:Nat}{c:Array Value}{T:TypeId}{fz:Nat×Nat}(h:w.heap[g]?=some (.cells c T fz)):w.cell? ⟨g,o,none⟩=c[o]?:=by simp[World.cell?,h]
theorem du{T:Type}{l:List T}{n i:Nat}{x:T}(h:(l.take n)[i]?=some x):i<n∧l[i]?=some x:=by
 rw[List.getElem?_take]at h;split at h
 ·exact⟨by assumption,h⟩
 ·cases h
theorem dD{T:Type}{l:List T}{n i:Nat}{x:T}(h:((l.drop o).take n)[i]?=some x):i<n∧l[o+i]?=some x:=by
 rw[List.getElem?_take]at h;split at h
 ·rw[List.getElem?_drop]at h;exact⟨by assumption,h⟩
 ·cases h
theorem af.SS{cs:List PV}{b n:Nat}{X:Nat→Value}(hM:al P G w0 μ φ m w)(h1:∀(i:Nat)p,cs[i]?=some p→Go.Ab.cellAt μ b (o+i)=some (X i))(h2:∀(i:Nat)p,cs[i]?=some p→af P μ p (X i))(h3:∀i:Nat,i<cs.length→(X i).oneCell'=true)(hn:n≤cs.length):w.rangeAt b o ((List.range n).map X)∧af P μ (.agg (cs.take n)) (.agg ((List.range n).map X).toArray):=by
 have hX:∀i x,((List.range n).map X)[i]?=some x→i<n∧x=X i:=by
  intro i x hx;have hi:i<n:=by have:=(List.getElem?_eq_some_iff.1 hx).1;simpa using this
  rw[List.getElem?_map,List.getElem?_range hi]at hx;simp at hx;exact⟨hi,hx.symm⟩
 refine⟨fun j v hv=>?_,.agg (by simp;omega) (fun i p x hi hx=>?_) (fun i x hx=>?_)⟩
 ·obtain⟨hj,rfl⟩:=hX j v hv;exact hM.cellAt (h1 j _ (List.getElem?_eq_getElem (by omega)))
 ·rw[List.getElem?_toArray]at hx;obtain⟨hj,rfl⟩:=hX i x hx;exact h2 i p (du hi).2
 ·rw[List.getElem?_toArray]at hx;obtain⟨hj,rfl⟩:=hX i x hx;exact h3 i (by omega)
end
section
variable {R:Type} {E:Env}
def Quiet(v:V)(m:Mem):Prop:=∀id,v.has id=true→(m id).isSome=true
theorem fB{g:V→Option PV}{cs:List V}{ps:List PV}(h:lT g cs=some ps):ps.length=cs.length∧∀(i:Nat)p,ps[i]?=some p→∃v,cs[i]?=some v∧g v=some p:=by
 induction cs generalizing ps with
 |nil=>simp[lT]at h;subst h;simp
 |cons c r ih=>
  simp only[lT]at h;obtain⟨p,hp,h⟩:=Option.bind_eq_some_iff.1 h;obtain⟨Vq,kx,h⟩:=Option.bind_eq_some_iff.1 h;simp only[Option.some.injEq]at h;subst h;obtain⟨h1,h2⟩:=ih kx;refine⟨by simp[h1],fun i q hq=>?_⟩;cases i with
  |zero=>simp at hq;subst hq;exact⟨c,by simp,hp⟩
  |succ i=>simp at hq;simpa using h2 i q hq
variable{s off:Nat}{t:TypeId}{e:PV}
theorem AX{k:V→Option R}{r:R}(h:nQ E s t e off k=some r):∃v,(∀(R':Type)(k':V→Option R'),nQ E s t e off k'=k' v)∧k v=some r∧(∀id,v.has id=false)∧∀(μ:Ro)(φ:Nat→aw)(w:World)(g o:Nat)(c:Array Value)(T:TypeId),w.heap[g]?=some (.cells c T (0,0))→e.cells.length=s→(∀(j:Nat)p x,e.cells[j]?=some p→c[o+j]?=some x→af E.P μ p x)→(∀(i:Nat)(x:Value),i<o+s→c[i]?=some x→x.oneCell'=true)→o+s≤c.size→∃y,(Instr.loadAt t (.pointer (some ⟨g,o+off,none⟩))).run E.P w=.ok y w∧ab E.P μ φ v y:=by
 unfold nQ at h;split at h
 ·rename_i ha;split at h
  ·rename_i hb;refine⟨_,fun R' k'=>by simp[nQ,ha,hb],h,by simp,fun μ φ w g o c T hg hs hc h1 hl=>?_⟩;have hR:w.rangeAt g (o+off) ((c.toList.drop (o+off)).take (aH E.P t)):=fun j v hv=>by obtain⟨_,hv⟩:=dD hv;rw[db hg];simpa using hv
   refine⟨_,jO ha hR (by simp;omega),.pv (.agg (by simp[aN];omega) (fun i p x hi hx=>?_) (fun i x hx=>?_))⟩
   ·rw[List.getElem?_toArray]at hx;obtain⟨_,hx⟩:=dD hx;rw[eK hs]at hi;obtain⟨_,hi⟩:=dD hi;exact hc _ p x hi (by simpa[Nat.add_assoc]using hx)
   ·rw[List.getElem?_toArray]at hx;obtain⟨_,hx⟩:=dD hx;have hx:c[o+off+i]?=some x:=by simpa using hx
    exact h1 _ x (by omega) hx
  ·cases h
 ·rename_i ha;have ha:aq E.P t=false:=by simpa using ha
  split at h
  ·rename_i p hp;obtain⟨q,h1,h2,h3,_⟩:=iV h;obtain⟨d,hu⟩:=qN h;refine⟨.pv q,fun R' k'=>by simp[nQ,ha,hp,h1],h2,by simp,fun μ φ w g o c T hg hs hc _ hl=>?_⟩;rw[eK hs]at hp;have Ke:off<e.cells.length:=(List.getElem?_eq_some_iff.1 hp).1;have hx:c[o+off]?=some c[o+off]:=Array.getElem?_eq_getElem (by omega);exact⟨_,fI hu ha (by rw[db hg];exact hx),.pv (h3 _ _ _ (hc off p _ hp hx))⟩
  ·cases h
variable{p:PV}
theorem Kf{k:PV→Option R}{r:R}(h:fg E t p k=some r):p.isRow=false∧p≠.bad:=by
 cases p with
 |gC s es=>exfalso;unfold fg at h;split at h<;>simp[asInt,asBool,dh,ae,asAgg,IH,dF]at h
 |bad=>exfalso;unfold fg at h;split at h<;>simp[asInt,asBool,dh,ae,asAgg,IH,dF]at h
 |_=>exact⟨rfl,by simp⟩
theorem AY(h:cell e off=p)(hp:p≠.bad):e.cells[off]?=some p:=by
 unfold cell at h;rw[List.getD_eq_getElem?_getD]at h;cases he:e.cells[off]? with
 |none=>rw[he]at h;simp at h;exact absurd h.symm hp
 |some q=>rw[he]at h;simp at h;rw[h]
theorem DE{rs:List PV}(h:bj s p=some rs):p=.gC s rs:=by
 unfold bj at h;split at h
 ·split at h
  ·rename_i e;subst e;simp only[Option.some.injEq]at h;subst h;rfl
  ·cases h
 ·cases h
variable{P:Program}{μ:Ro}{φ:Nat→aw}{w:World}{id i:Nat}{et:TypeId}{es:List PV}
theorem aL.cell{sz:Nat}(h:aL P μ φ w id sz et es){g:Nat}(hg:(φ id).g=some g)(he:es[i]?=some e)(hp:e.cells[off]?=some p):∃c T x,w.heap[g]?=some (.cells c T (0,0))∧c[i*sz+off]?=some x∧dW P μ ((φ id).row i off) w p x∧x.oneCell'=true:=by
 obtain⟨a1,a2,a3,a4,a5,a6,a7⟩:=h;rw[hg]at a7;obtain⟨c,T,c1,c2,c3,c4,c5⟩:=a7;have hi:i<es.length:=(List.getElem?_eq_some_iff.1 he).1;have ho:off<sz:=by rw[←a5 i e he];exact(List.getElem?_eq_some_iff.1 hp).1
 have h1:(i+1)*sz≤es.length*sz:=Nat.mul_le_mul_right _ (by omega);have h2:es.length*sz≤(φ id).cap*sz:=Nat.mul_le_mul_right _ c3;rw[Nat.add_mul]at h1;have ba:i*sz+off<c.size:=by omega
 exact⟨c,T,c[i*sz+off],c1,Array.getElem?_eq_getElem ba,c4 i e off p _ he hp (Array.getElem?_eq_getElem ba),c5 (i*sz+off) _ (by omega) (Array.getElem?_eq_getElem ba)⟩
theorem aL.row{sz:Nat}(h:aL P μ φ w id sz et es){rs:List PV}(he:es[i]?=some e)(hr:bj s (Go.Ab.cell e off)=some rs):∃g x,(φ id).g=some g∧w.cell? ⟨g,i*sz+off,none⟩=some x∧eu P μ ((φ id).row i off) w s rs x∧e.cells[off]?=some (.gC s rs):=by
 have hp:=AY (DE hr) (by simp);cases hg:(φ id).g with
 |none=>obtain⟨a1,a2,a3,a4,a5,a6,a7⟩:=h;rw[hg]at a7;rw[a7.1]at he;simp at he
 |some g=>obtain⟨c,_,x,c1,c2,c3,_⟩:=h.cell hg he hp;exact⟨g,x,rfl,by rw[db c1];exact c2,c3,hp⟩
theorem ab.SU{ν:Ro}{x:Value}(h:ab P μ (fun _=>((φ id).row i off).up) (.os 0) x):ab P ν φ (.qD id i off) x:=by
 cases h with
 |np h=>exact .Ci h
 |os h=>exact .qD h
theorem ab.FJ{ν:Ro}{x:Value}(h:ab P μ φ (.qD id i off) x):ab P ν (fun _=>((φ id).row i off).up) (.os 0) x:=by
 cases h with
 |Ci h=>exact .np h
 |qD h=>exact .os (id:=0) (φ:=fun _=>((φ id).row i off).up) h
theorem AZ{s:Nat}:∀{es:List PV}{k:Nat}{p:PV},(tQ s es)[k]?=some p→∃i j e,k=i*s+j∧j<s∧es[i]?=some e∧(aA s e)[j]?=some p
 |[],k,p,h=>by simp[tQ]at h
 |e::es,k,p,h=>by
  simp only[tQ]at h;rw[List.getElem?_append,aN]at h;split at h
  ·exact⟨0,k,e,by omega,‹_›,rfl,h⟩
  ·obtain⟨i,j,e',h1,h2,h3,h4⟩:=AZ h;exact⟨i+1,j,e',by rw[Nat.add_mul];omega,h2,by simpa using h3,h4⟩
theorem A0{s:Nat}:∀{es:List PV},(tQ s es).length=es.length*s
 |[]=>by simp[tQ]
 |e::es=>by simp only[tQ,List.length_append,aN,A0,List.length_cons,Nat.add_mul];omega
theorem A1(h:sZ E t s i off=true):aq E.P t=true∧i=0∧off=0∧∃n e,E.P.underlying t=some (.array n e)∧aH E.P e=s∧aq E.P e=true:=by
 unfold sZ at h;split at h
 ·rename_i n e hu;simp only[Bool.and_eq_true]at h;exact⟨by simp[aq,hu],Nat.eq_of_beq_eq_true h.1.2,Nat.eq_of_beq_eq_true h.2,n,e,hu,Nat.eq_of_beq_eq_true h.1.1.1,h.1.1.2⟩
 ·cases h
theorem ay.whole(hA:ay P μ φ w id s et es){g:Nat}(hg:(φ id).g=some g):∃xs:List Value,xs.length=es.length*s∧w.rangeAt g 0 xs∧af P μ (.agg (tQ s es)) (.agg xs.toArray):=by
 obtain⟨a1,a2,a3,a4,a5,a6,a7⟩:=hA;rw[hg]at a7;obtain⟨c,T,c1,c2,c3,c4,c5⟩:=a7;have hle:es.length*s≤c.size:=Nat.le_trans (Nat.mul_le_mul_right _ c3) c2;refine⟨c.toList.take (es.length*s),by simp;omega,fun j v hv=>?_,.agg (by rw[A0];simp;omega) (fun k p x hp hx=>?_) (fun k x hx=>?_)⟩
 ·rw[db c1];have:=List.getElem?_eq_some_iff.1 hv;rw[List.getElem?_take]at hv;split at hv
  ·simpa using hv
  ·cases hv
 ·obtain⟨i,j,e,rfl,hj,he,hp⟩:=AZ hp;rw[eK (a5 i e he)]at hp;rw[List.getElem?_toArray,List.getElem?_take]at hx;split at hx
  ·exact c4 i e j p x he hp (by simpa using hx)
  ·cases hx
 ·rw[List.getElem?_toArray,List.getElem?_take]at hx;split at hx
  ·exact c5 k x ‹_› (by simpa using hx)
  ·cases hx
theorem DB{own:Bool}{a:V}{m:Mem}{k:V→aY→Option R}{r:R}(h:lO E own t a m k=some r):∃v ft,(∀m2:Mem,(∀x∈ft,m2 x.2=m x.2)→∀(R':Type)(k':V→aY→Option R'),lO E own t a m2 k'=k' v ft)∧k v ft=some r∧(∀x∈ft,x.1=false)∧∀(G:Nat→Option (List PV))(w0:bg)(μ:Ro)(φ:Nat→aw)(w:World)(x:Value),al E.P G w0 μ φ m w→ab E.P μ φ a x→∃y,(Instr.loadAt t x).run E.P w=.ok y w∧ab E.P μ φ v y∧Quiet v m:=by
 unfold lO at h;split at h
 ·rename_i cs;split at h
  ·rename_i ha;split at h
   ·rename_i hn;refine⟨_,_,fun m2 _ R' k'=>by simp[lO,ha,hn],h,by simp,fun G w0 μ φ w x hM hx=>?_⟩;cases hx with
    |pv hp=>cases hp with
     |rp X h1 h2 h3=>obtain⟨hr,hv⟩:=af.SS hM h1 h2 h3 hn;exact⟨_,jO ha hr (by simp),.pv hv,by simp[Quiet]⟩
   ·cases h
  ·rename_i ha;have ha:aq E.P t=false:=by simpa using ha
   obtain⟨p,Ao,h⟩:=Option.bind_eq_some_iff.1 h;have Vr:cs[0]?=some p:=by rw[←List.head?_eq_getElem?];exact Ao
   obtain⟨q,h1,h2,h3,_⟩:=iV h;refine⟨_,_,fun m2 _ R' k'=>by simp[lO,ha,Ao,h1],h2,by simp,fun G w0 μ φ w x hM hx=>?_⟩;obtain⟨d,hu⟩:=qN h;cases hx with
   |pv hp=>cases hp with
    |rp X g1 g2 g3=>have hc:=hM.cellAt (g1 0 p Vr);exact⟨_,fI hu ha (by simpa using hc),.pv (h3 _ _ _ (g2 0 p Vr)),by simp[Quiet]⟩
 ·rename_i id off;split at h
  ·rename_i cs hm;split at h
   ·rename_i ha;split at h
    ·rename_i hn;refine⟨_,_,fun m2 bY R' k'=>by simp[lO,ha,hn,bY (false,id) (by simp),hm],h,by simp,fun G w0 μ φ w x hM hx=>?_⟩;cases hx with
     | @op _ _ g hg=>
      obtain⟨g',c,T,bF,hh,hs,hv,h1,vq⟩:=hM.dq id _ hm;rw[hg]at bF;simp only[Option.some.injEq]at bF;subst bF;have hR:w.rangeAt g off ((c.toList.drop off).take (aH E.P t)):=fun j v hv=>by obtain⟨_,hv⟩:=dD hv;rw[db hh];simpa using hv
      refine⟨_,jO ha hR (by simp;omega),.agg (by simp;omega) (fun i p x hi hx=>?_) (fun i x hx=>?_),?_⟩
      ·rw[List.getElem?_toArray]at hx;obtain⟨_,hx⟩:=dD hx;obtain⟨_,hi⟩:=dD hi;exact hv _ p x hi (by simpa using hx)
      ·rw[List.getElem?_toArray]at hx;obtain⟨_,hx⟩:=dD hx;exact h1 _ x (by simpa using hx)
      ·intro lU hid;simp only[V.has]at hid;obtain⟨v,hv,hh⟩:=cw.1 hid;exact hM.eT id cs lU hm (bw (List.mem_of_mem_drop (List.mem_of_mem_take hv)) hh)
    ·cases h
   ·rename_i ha;have ha:aq E.P t=false:=by simpa using ha
    split at h
    ·rename_i ps kx;obtain⟨p,Ao,h⟩:=Option.bind_eq_some_iff.1 h;obtain⟨q,h1,h2,h3,_⟩:=iV h;refine⟨_,_,fun m2 bY R' k'=>by simp[lO,ha,bY (false,id) (by simp),hm,kx,Ao,h1],h2,by simp,fun G w0 μ φ w x hM hx=>?_⟩;cases hx with
     | @op _ _ g hg=>
      obtain⟨g',c,T,bF,hh,hs,hvv,_⟩:=hM.dq id _ hm;rw[hg]at bF;simp only[Option.some.injEq]at bF;subst bF;obtain⟨f1,f2⟩:=fB kx;obtain⟨ba,Vr⟩:=List.getElem?_eq_some_iff.1 Ao;have Ke:off<cs.length:=by omega
      obtain⟨v,hv,ky⟩:=f2 off p Ao;have hvp:v=.pv p:=by cases v<;>simp[nj]at ky;subst ky;rfl
      subst hvp;have hx:c[off]?=some c[off]:=Array.getElem?_eq_getElem (by omega);obtain⟨d,hu⟩:=qN h;have hr:=hvv off _ _ hv hx;cases hr with
      |pv hr=>exact⟨_,fI hu ha (by rw[db hh];exact hx),.pv (h3 _ _ _ hr),by simp[Quiet]⟩
    ·rename_i Pw;split at h
     ·rename_i v hv;obtain⟨u,h1,h2,h3,h4⟩:=DD h;refine⟨_,_,fun m2 bY R' k'=>by simp[lO,ha,bY (false,id) (by simp),hm,Pw,hv,h1],h2,by simp,fun G w0 μ φ w x hM hx=>?_⟩;cases hx with
      | @op _ _ g hg=>obtain⟨g',c,T,bF,hh,hs,hvv,_⟩:=hM.dq id _ hm;rw[hg]at bF;simp only[Option.some.injEq]at bF;subst bF;have Ke:off<cs.length:=(List.getElem?_eq_some_iff.1 hv).1;have hx:c[off]?=some c[off]:=Array.getElem?_eq_getElem (by omega);obtain⟨d,hu⟩:=AW h;refine⟨_,fI hu ha (by rw[db hh];exact hx),h3 _ _ _ _ (hvv off v _ hv hx),fun lU hid=>?_⟩;exact hM.eT id cs lU hm (bw (List.mem_of_getElem? hv) (h4 lU hid))
     ·cases h
  ·cases h
 ·rename_i id i off;have key:∀(sz:Nat)(et:TypeId)(es:List PV),(m id=some (.arr sz et es)∨m id=some (.l6 sz et es))→((es[i]?).bind fun e=>nQ E sz t e off fun v=>k v [(false,id)])=some r→∃v,(∀(R':Type)(k':V→aY→Option R'),((es[i]?).bind fun e=>nQ E sz t e off fun v=>k' v [(false,id)])=k' v [(false,id)])∧k v [(false,id)]=some r∧∀(G:Nat→Option (List PV))(w0:bg)(μ:Ro)(φ:Nat→aw)(w:World)(x:Value),al E.P G w0 μ φ m w→ab E.P μ φ (.oe id i off) x→∃y,(Instr.loadAt t x).run E.P w=.ok y w∧ab E.P μ φ v y∧Quiet v m:=by
   intro sz et es hm hb;obtain⟨e,he,hb⟩:=Option.bind_eq_some_iff.1 hb;obtain⟨v,h1,h2,h3,h4⟩:=AX hb;refine⟨v,fun R' k'=>by simp[he,h1],h2,fun G w0 μ φ w x hM hx=>?_⟩;have hA:ay E.P μ φ w id sz et es:=by
    rcases hm with hm|hm
    ·exact hM.dq id _ hm
    ·exact(hM.dq id _ hm).1
   cases hx with
   | @oe _ _ _ g hg=>
    obtain⟨a1,a2,a3,a4,a5,a6,a7⟩:=hA;rw[hg]at a7;obtain⟨c,T,c1,c2,c3,c4,c5⟩:=a7;have hi:i<es.length:=(List.getElem?_eq_some_iff.1 he).1;obtain⟨y,hy,hv⟩:=h4 μ φ w g (i*sz) c T c1 (a5 i e he) (fun j p x hj hx=>c4 i e j p x he hj hx) (fun i' x lD hx=>c5 i' x (by
     have:(i+1)*sz≤es.length*sz:=Nat.mul_le_mul_right _ (by omega);rw[Nat.add_mul]at this;omega) hx) (by
     have:(i+1)*sz≤(φ id).cap*sz:=Nat.mul_le_mul_right _ (by omega);rw[Nat.add_mul]at this;omega)
    rw[a2];exact⟨y,hy,hv,fun id hid=>by rw[h3]at hid;cases hid⟩
  split at h
  ·rename_i sz et es hm;cases hw:sZ E t sz i off with
   |true=>
    rw[hw]at h;simp only[cond_true]at h;split at h
    ·rename_i hl;obtain⟨ha,rfl,rfl,_⟩:=A1 hw;refine⟨_,_,fun m2 bY R' k'=>by have:=bY (false,id) (by simp);simp only at this;simp only[lO,this,hm,hw,cond_true];rw[if_pos hl],h,by simp,fun G w0 μ φ w x hM hx=>?_⟩;have hA:ay E.P μ φ w id sz et es:=hM.dq id _ hm;cases hx with
     | @oe _ _ _ g hg=>obtain⟨xs,x1,x2,x3⟩:=hA.whole hg;rw[Nat.zero_mul];exact⟨_,jO ha x2 (by omega),.pv x3,by simp[Quiet]⟩
    ·cases h
   |false=>rw[hw]at h;obtain⟨v,h1,h2,h3⟩:=key sz et es (.inl hm) h;exact⟨v,_,fun m2 bY R' k'=>by have:=bY (false,id) (by simp);simp only at this;simp only[lO,this,hm,hw,cond_false];exact h1 R' k',h2,by simp,h3⟩
  ·rename_i sz et es hm;obtain⟨v,h1,h2,h3⟩:=key sz et es (.inr hm) h;exact⟨v,_,fun m2 bY R' k'=>by have:=bY (false,id) (by simp);simp only at this;simp only[lO,this,hm];exact h1 R' k',h2,by simp,h3⟩
  ·rename_i sz et es hm;split at h
   ·cases h
   ·rename_i ha;obtain⟨e,he,h⟩:=Option.bind_eq_some_iff.1 h;have Rs:aq E.P t=false:=by simpa using ha
    split at h
    ·rename_i ho;split at h
     ·rename_i ye hu;obtain⟨rs,hr,h⟩:=Option.bind_eq_some_iff.1 h;refine⟨_,_,fun m2 bY R' k'=>by have:=bY (false,id) (by simp);simp only at this;simp only[lO,this,hm,if_neg ha,he,ho,hu,hr,Option.bind_some,if_true],h,by simp,fun G w0 μ φ w x hM hx=>?_⟩;have hN:aL E.P μ φ w id sz et es:=hM.dq id _ hm;obtain⟨g,y,hg,hc,gQ,_⟩:=hN.row he hr;cases hx with
      |oe bF=>rw[hg]at bF;simp only[Option.some.injEq]at bF;subst bF;rw[hN.2.1];refine⟨y,fI hu Rs hc,.SU gQ.2,fun j hj=>?_⟩;have:=Nat.eq_of_beq_eq_true hj;subst this;rw[hm];rfl
     ·cases h
    ·rename_i ho;obtain⟨q,h1,h2,h3,_⟩:=iV h;obtain⟨Vs,Rt⟩:=Kf h;obtain⟨d,hu⟩:=qN h;refine⟨_,_,fun m2 bY R' k'=>by have:=bY (false,id) (by simp);simp only at this;simp only[lO,this,hm,if_neg ha,he,ho,Option.bind_some,if_false,Bool.false_eq_true];exact h1 _ _,h2,by simp,fun G w0 μ φ w x hM hx=>?_⟩;have hN:aL E.P μ φ w id sz et es:=hM.dq id _ hm;cases hx with
     |oe hg=>obtain⟨c,_,y,c1,c2,c3,_⟩:=hN.cell hg he (AY rfl Rt);rw[hN.2.1];exact⟨y,fI hu Rs (by rw[db c1];exact c2),.pv (h3 _ _ _ (c3.IP Vs)),by simp[Quiet]⟩
  ·cases h
 ·rename_i id i off s j off2;split at h
  ·rename_i sz et es hm;obtain⟨e,he,h⟩:=Option.bind_eq_some_iff.1 h;obtain⟨rs,hr,h⟩:=Option.bind_eq_some_iff.1 h;obtain⟨q,hq,h⟩:=Option.bind_eq_some_iff.1 h;obtain⟨v,h1,h2,h3,h4⟩:=AX h;refine⟨v,_,fun m2 bY R' k'=>by have:=bY (false,id) (by simp);simp only at this;simp only[lO,this,hm,he,hr,hq,Option.bind_some];exact h1 R' _,h2,by simp,fun G w0 μ φ w x hM hx=>?_⟩;have hN:aL E.P μ φ w id sz et es:=hM.dq id _ hm;obtain⟨g,y,hg,hc,⟨⟨ye,hA⟩,hV⟩,_⟩:=hN.row he hr;cases hx with
   | @tP _ _ _ _ _ _ g' bF hs=>obtain⟨a1,a2,a3,a4,a5,a6,a7⟩:=hA;have hgu:((φ id).row i off).up.g=some g':=bF;rw[hgu]at a7;obtain⟨c,T,c1,c2,c3,c4,c5⟩:=a7;have hj:j<rs.length:=(List.getElem?_eq_some_iff.1 hq).1;have e1:(j+1)*s≤rs.length*s:=Nat.mul_le_mul_right _ (by omega);have e2:rs.length*s≤((φ id).row i off).up.cap*s:=Nat.mul_le_mul_right _ c3;have e3:((φ id).row i off).up.cap*s≤c.size:=c2;rw[Nat.add_mul]at e1;obtain⟨y,hy,hv⟩:=h4 μ φ w g' (j*s) c T c1 (a5 j q hq) (fun l p x hl hx=>c4 j q l p x hq hl hx) (fun i' x lD hx=>c5 i' x (by omega) hx) (by omega);exact⟨y,hy,hv,fun id hid=>by rw[h3]at hid;cases hid⟩
  ·cases h
 ·cases h
end
end Go.Ab
set_option linter.unusedVariables false
namespace Go.Ab
open Go.RowKit (Below)
section
variable {R:Type} {E:Env}
variable{s t:TypeId}{j o:Nat}
theorem wH(h:tU E s j=some (o,t)):∃fs f,E.P.underlying s=some (.struct fs)∧fs[j]?=some f∧f.offset=o∧f.type=t∧aH E.P t≠0:=by
 unfold tU at h;split at h
 ·rename_i fs hu;split at h
  ·rename_i f hf;split at h
   ·cases h
   ·rename_i hz;simp only[Option.some.injEq,Prod.mk.injEq]at h;obtain⟨rfl,rfl⟩:=h;exact⟨fs,f,hu,hf,rfl,rfl,hz⟩
  ·cases h
 ·cases h
variable{P:Program}
theorem rT(h:aH P t≠0):∃i,P.info? t=some i∧i.size=aH P t:=by
 unfold aH at*;cases hi:P.info? t with
 |none=>simp[hi]at h
 |some i=>exact⟨i,rfl,by simp⟩
variable{w:World}
theorem gr(h:aH P t≠0):(sizeOf t).run P w=.ok (aH P t) w:=by obtain⟨i,hi,hs⟩:=rT h;simp[sizeOf,typeInfo,hi,hs]
theorem nE{fs:Array Field}{f:Field}{b:Nat}(hu:P.underlying s=some (.struct fs))(hf:fs[j]?=some f)(hz:aH P f.type≠0):(Instr.fieldAt s (.pointer (some ⟨b,o,none⟩)) j).run P w=.ok (.pointer (some ⟨b,o+f.offset,none⟩)) w:=by simp[Instr.fieldAt,run_underlying hu,hf,Instr.sureAddr,fieldPlace,gr hz,hz,Addr.add_mid]
theorem jP{T:Type}{l:List T}{i:Nat}{x:T}(h:(l.drop o)[i]?=some x):l[o+i]?=some x:=by rw[List.getElem?_drop]at h;exact h
theorem af.Cj{μ:Ro}{cs:List PV}{b:Nat}(n:Nat)(h:af P μ (.rp cs) (.pointer (some ⟨b,o,none⟩))):af P μ (.rp (cs.drop n)) (.pointer (some ⟨b,o+n,none⟩)):=by
 cases h with
 |rp X h1 h2 h3=>
  refine .rp (fun i=>X (n+i)) (fun i p hi=>?_) (fun i p hi=>h2 _ p (jP hi)) (fun i hi=>h3 _ ?_)
  ·have:=h1 _ p (jP hi);rw[Nat.add_assoc];exact this
  ·simp at hi;omega
variable{x:V}{k:V→Option R}{r:R}
theorem Aw(h:gO E s x j k=some r):∃v,(∀(R':Type)(k':V→Option R'),gO E s x j k'=k' v)∧k v=some r∧(∀id,v.has id=x.has id)∧∀(μ:Ro)(φ:Nat→aw)(w:World)(y:Value),ab E.P μ φ x y→∃z,(Instr.fieldAt s y j).run E.P w=.ok z w∧ab E.P μ φ v z:=by
 unfold gO at h;split at h
 ·rename_i o t ho;obtain⟨fs,f,hu,hf,rfl,rfl,hz⟩:=wH ho;split at h
  ·rename_i cs;refine⟨_,fun R' k'=>by simp[gO,ho],h,by simp,fun μ φ w y hy=>?_⟩;cases hy with
   |pv hp=>cases hp with
    |rp X h1 h2 h3=>exact⟨_,nE hu hf hz,.pv (af.Cj _ (.rp X h1 h2 h3))⟩
  ·rename_i id off;refine⟨_,fun R' k'=>by simp[gO,ho],h,by simp[V.has],fun μ φ w y hy=>?_⟩;cases hy with
   |op hg=>exact⟨_,nE hu hf hz,.op hg⟩
  ·rename_i id i off;refine⟨_,fun R' k'=>by simp[gO,ho],h,by simp[V.has],fun μ φ w y hy=>?_⟩;cases hy with
   |oe hg=>exact⟨_,nE hu hf hz,by rw[Nat.add_assoc];exact .oe hg⟩
  ·refine⟨_,fun R' k'=>by simp[gO,ho],h,by simp[V.has],fun μ φ w y hy=>?_⟩;cases hy with
   |tP hg hs=>exact⟨_,nE hu hf hz,by rw[Nat.add_assoc];exact .tP hg hs⟩
  ·cases h
 ·cases h
theorem fJ{e:TypeId}{q:IntKind}{i:Int}{ad:Addr}{len cap:Nat}(hu:P.underlying t=some (.slice e))(hz:aH P e≠0)(h0:0≤i)(h1:i<(len:Int)):(Instr.indexAt t (.slice (some ad) len cap) (.int q i)).run P w=.ok (.pointer (some (ad.add (i.toNat*aH P e)))) w:=by simp[Instr.indexAt,asIntOf,run_underlying hu,h0,h1,gr hz]
theorem iW{e:TypeId}{n:Nat}{q:IntKind}{i:Int}{ad:Addr}(hu:P.underlying t=some (.array n e))(hz:aH P e≠0)(h0:0≤i)(h1:i<(n:Int)):(Instr.indexAt t (.pointer (some ad)) (.int q i)).run P w=.ok (.pointer (some (ad.add (i.toNat*aH P e)))) w:=by simp[Instr.indexAt,asIntOf,run_underlying hu,h0,h1,gr hz,Instr.sureAddr]
theorem PR{es:List PV}{i:Int}{p:PV}(h:da es i=some p):0≤i∧es[i.toNat]?=some p∧i<(es.length:Int):=by
 unfold da at h;split at h
 ·rename_i h0;have:=(List.getElem?_eq_some_iff.1 h).1;exact⟨h0,h,by omega⟩
 ·cases h
theorem af.IU{μ:Ro}{sz:Nat}{es:List PV}{x:Value}{n:Nat}{p:PV}(h:af P μ (.rs sz es) x)(hp:es[n]?=some p):∃b o cap,x=.slice (some ⟨b,o,none⟩) es.length cap∧af P μ (.rp (aA sz p)) (.pointer (some ⟨b,o+n*sz,none⟩)):=by
 cases h with
 |iC=>simp at hp
 |Dg _=>simp at hp
 | @rs _ _ b o cap X h1 h2 h3 h4 h5 h6=>refine⟨b,o,cap,rfl,?_⟩;rw[eK (h3 n p hp)];exact .rp (X n) (fun i q hi=>h4 n p i q hp hi) (fun i q hi=>h5 n p i q hp hi) (fun i hi=>h6 n p i _ hp (List.getElem?_eq_getElem hi))
theorem Ax{ix:V}{m:Mem}{k:V→aY→Option R}(h:cS E t x ix m k=some r):∃v ft,(∀m2:Mem,(∀x∈ft,m2 x.2=m x.2)→∀(R':Type)(k':V→aY→Option R'),cS E t x ix m2 k'=k' v ft)∧k v ft=some r∧(∀x∈ft,x.1=false)∧(∀id,v.has id=true→x.has id=true)∧∀(G:Nat→Option (List PV))(w0:bg)(μ:Ro)(φ:Nat→aw)(w:World)(y z:Value),al E.P G w0 μ φ m w→ab E.P μ φ x y→ab E.P μ φ ix z→∃u,(Instr.indexAt t y z).run E.P w=.ok u w∧ab E.P μ φ v u:=by
 unfold cS at h;split at h
 ·rename_i q i;split at h
  ·rename_i e s es hu;split at h
   ·rename_i hs;obtain⟨p,hp,hk⟩:=Option.bind_eq_some_iff.1 h;refine⟨_,_,fun m2 _ R' k'=>by simp only[cS,hu];rw[if_pos hs,hp];rfl,hk,by simp,by simp,fun G w0 μ φ w y z hM hy hz=>?_⟩;obtain⟨h0,hp,hl⟩:=PR hp;cases hz with
    |pv hz=>cases hz with
     |int xv=>
      cases hy with
      |pv hy=>obtain⟨b,o,cap,rfl,hr⟩:=hy.IU hp;refine⟨_,fJ hu (by omega) h0 hl,?_⟩;rw[Addr.add_mid,←hs.1];exact .pv hr
   ·cases h
  ·rename_i e id hu;have key:∀(s:Nat)(et:TypeId)(es:List PV),(m id=some (.arr s et es)∨m id=some (.l6 s et es))→s=aH E.P e∧0<s→ag i es.length→∀(G:Nat→Option (List PV))(w0:bg)(μ:Ro)(φ:Nat→aw)(w:World)(y z:Value),al E.P G w0 μ φ m w→ab E.P μ φ (.os id) y→ab E.P μ φ (.pv (.int q i)) z→∃u,(Instr.indexAt t y z).run E.P w=.ok u w∧ab E.P μ φ (.oe id i.toNat 0) u:=by
    intro s et es hm hs hr G w0 μ φ w y z hM hy hz;have hA:ay E.P μ φ w id s et es:=by
     rcases hm with hm|hm
     ·exact hM.dq id _ hm
     ·exact(hM.dq id _ hm).1
    obtain⟨a1,a2,a3,a4,a5,a6,a7⟩:=hA;cases hz with
    |pv hz=>cases hz with
     |int xv=>
      cases hy with
      |np hg=>rw[hg]at a7;rw[a7.1]at hr;simp[ag]at hr;omega
      | @os _ g hg=>refine⟨_,fJ hu (by omega) hr.1 (by rw[a1];exact hr.2),?_⟩;rw[Addr.add_mid];have:=ab.oe (P:=E.P) (μ:=μ) (φ:=φ) (id:=id) (i:=i.toNat) (off:=0) hg;rw[a2,hs.1]at this;simpa using this
   split at h
   ·rename_i s et es hm;split at h
    ·rename_i hs;split at h
     ·rename_i hr;exact⟨_,_,fun m2 bY R' k'=>by have:=bY (false,id) (by simp);simp only at this;simp only[cS,hu,this,hm];rw[if_pos hs,if_pos hr],h,by simp,by simp[V.has],key s et es (.inl hm) hs hr⟩
     ·cases h
    ·cases h
   ·rename_i s et es hm;split at h
    ·rename_i hs;split at h
     ·rename_i hr;exact⟨_,_,fun m2 bY R' k'=>by have:=bY (false,id) (by simp);simp only at this;simp only[cS,hu,this,hm];rw[if_pos hs,if_pos hr],h,by simp,by simp[V.has],key s et es (.inr hm) hs hr⟩
     ·cases h
    ·cases h
   ·rename_i s et es hm;split at h
    ·rename_i hs;split at h
     ·rename_i hr;refine⟨_,_,fun m2 bY R' k'=>by have:=bY (false,id) (by simp);simp only at this;simp only[cS,hu,this,hm];rw[if_pos hs,if_pos hr],h,by simp,by simp[V.has],fun G w0 μ φ w y z hM hy hz=>?_⟩;have hA:aL E.P μ φ w id s et es:=hM.dq id _ hm;obtain⟨a1,a2,a3,a4,a5,a6,a7⟩:=hA;cases hz with
      |pv hz=>cases hz with
       |int xv=>
        cases hy with
        |np hg=>rw[hg]at a7;rw[a7.1]at hr;simp[ag]at hr;omega
        | @os _ g hg=>refine⟨_,fJ hu (by omega) hr.1 (by rw[a1];exact hr.2),?_⟩;rw[Addr.add_mid];have:=ab.oe (P:=E.P) (μ:=μ) (φ:=φ) (id:=id) (i:=i.toNat) (off:=0) hg;rw[a2,hs.1]at this;simpa using this
     ·cases h
    ·cases h
   ·rename_i cs hm;split at h
    ·rename_i hs;refine⟨_,_,fun m2 bY R' k'=>by have:=bY (false,id) (by simp);simp only at this;simp only[cS,hu,this,hm];rw[if_pos hs],h,by simp,by simp[V.has],fun G w0 μ φ w y z hM hy hz=>?_⟩;obtain⟨g,c,T,hg,hh,jF,hv,oO,vq⟩:=hM.dq id _ hm;cases hz with
     |pv hz=>cases hz with
      |int xv=>
       cases hy with
       |np bF=>rw[hg]at bF;cases bF
       | @os _ g' bF=>refine⟨_,fJ hu (by omega) hs.2.1 (by rw[vq];exact hs.2.2),?_⟩;rw[Addr.add_mid,hs.1];have:=ab.op (P:=E.P) (μ:=μ) (φ:=φ) (id:=id) (off:=i.toNat) bF;simpa using this
    ·cases h
   ·cases h
  ·rename_i e id i0 off hu;split at h
   ·rename_i s0 et0 es hm;split at h
    ·rename_i dQ;obtain⟨e0,he,h⟩:=Option.bind_eq_some_iff.1 h;obtain⟨rs,Ap,h⟩:=Option.bind_eq_some_iff.1 h;split at h
     ·rename_i hr;refine⟨_,_,fun m2 bY R' k'=>by have:=bY (false,id) (by simp);simp only at this;simp only[cS,hu,this,hm];rw[if_pos dQ,he];simp only[Option.bind_some,Ap];rw[if_pos hr],h,by simp,by simp[V.has],fun G w0 μ φ w y z hM hy hz=>?_⟩;have hN:aL E.P μ φ w id s0 et0 es:=hM.dq id _ hm;obtain⟨_,_,_,_,⟨⟨ye,hA⟩,_⟩,_⟩:=hN.row he Ap;obtain⟨a1,a2,a3,a4,a5,a6,a7⟩:=hA;cases hz with
      |pv hz=>cases hz with
       |int xv=>
        cases hy with
        |Ci hg=>have bF:((φ id).row i0 off).up.g=none:=hg;simp only[bF]at a7;rw[a7.1]at hr;simp[ag]at hr;omega
        | @qD _ _ _ g hg=>have a1':((φ id).row i0 off).len=rs.length:=a1;refine⟨_,fJ hu (by omega) hr.1 (by rw[a1'];exact hr.2),?_⟩;rw[Addr.add_mid];have:=ab.tP (P:=E.P) (μ:=μ) (φ:=φ) (id:=id) (i:=i0) (off:=off) (s:=aH E.P e) (j:=i.toNat) (off2:=0) hg a2;simpa using this
     ·cases h
    ·cases h
   ·cases h
  ·rename_i e id lo len hu;have key:∀(s:Nat)(et:TypeId)(es:List PV),(m id=some (.arr s et es)∨m id=some (.l6 s et es))→s=aH E.P e∧0<s→ag i len→∀(G:Nat→Option (List PV))(w0:bg)(μ:Ro)(φ:Nat→aw)(w:World)(y z:Value),al E.P G w0 μ φ m w→ab E.P μ φ (.eR id lo len) y→ab E.P μ φ (.pv (.int q i)) z→∃u,(Instr.indexAt t y z).run E.P w=.ok u w∧ab E.P μ φ (.oe id (lo+i.toNat) 0) u:=by
    intro s et es hm hs hr G w0 μ φ w y z hM hy hz;have hA:ay E.P μ φ w id s et es:=by
     rcases hm with hm|hm
     ·exact hM.dq id _ hm
     ·exact(hM.dq id _ hm).1
    obtain⟨a1,a2,a3,a4,a5,a6,a7⟩:=hA;cases hz with
    |pv hz=>cases hz with
     |int xv=>
      cases hy with
      |my hg=>simp[ag]at hr;omega
      | @eR _ _ _ xw g ad hg hl ha Ru Ay=>
       have ha:=ha.resolve_right fun hh=>by have:=hr.1;have:=hr.2;omega
       subst ha;refine⟨_,fJ hu (by omega) hr.1 hr.2,?_⟩;rw[Addr.add_mid];have:=ab.oe (P:=E.P) (μ:=μ) (φ:=φ) (id:=id) (i:=lo+i.toNat) (off:=0) hg;rw[a2,hs.1]at this;rw[a2,hs.1];simpa[Nat.add_mul]using this
   split at h
   ·rename_i s et es hm;split at h
    ·rename_i hs;split at h
     ·rename_i hr;exact⟨_,_,fun m2 bY R' k'=>by have:=bY (false,id) (by simp);simp only at this;simp only[cS,hu,this,hm];rw[if_pos hs,if_pos hr],h,by simp,by simp[V.has],key s et es (.inl hm) hs hr⟩
     ·cases h
    ·cases h
   ·rename_i s et es hm;split at h
    ·rename_i hs;split at h
     ·rename_i hr;exact⟨_,_,fun m2 bY R' k'=>by have:=bY (false,id) (by simp);simp only at this;simp only[cS,hu,this,hm];rw[if_pos hs,if_pos hr],h,by simp,by simp[V.has],key s et es (.inr hm) hs hr⟩
     ·cases h
    ·cases h
   ·cases h
  ·rename_i n e id off hu;split at h
   ·rename_i hr;refine⟨_,_,fun m2 _ R' k'=>by simp only[cS,hu];rw[if_pos hr],h,by simp,by simp[V.has],fun G w0 μ φ w y z hM hy hz=>?_⟩;cases hz with
    |pv hz=>cases hz with
     |int xv=>
      cases hy with
      |op hg=>exact⟨_,iW hu (by omega) hr.1.1 hr.1.2,by rw[Addr.add_mid];exact .op hg⟩
   ·cases h
  ·rename_i n e cs hu;split at h
   ·rename_i hr;refine⟨_,_,fun m2 _ R' k'=>by simp only[cS,hu];rw[if_pos hr],h,by simp,by simp,fun G w0 μ φ w y z hM hy hz=>?_⟩;cases hz with
    |pv hz=>cases hz with
     |int xv=>
      cases hy with
      |pv hy=>cases hy with
       |rp X h1 h2 h3=>exact⟨_,iW hu (by omega) hr.1.1 hr.1.2,by rw[Addr.add_mid];exact .pv (af.Cj _ (.rp X h1 h2 h3))⟩
   ·cases h
  ·rename_i n e id j off hu;split at h
   ·rename_i hr;split at h
    ·rename_i hb;refine⟨_,_,fun m2 bY R' k'=>by have:=bY (false,id) (by simp);simp only at this;simp only[cS,hu,this];rw[if_pos hr,hb],h,by simp,by simp[V.has],fun G w0 μ φ w y z hM hy hz=>?_⟩;have jF:(φ id).sz=aH E.P e:=by
      split at hb
      ·rename_i s et es hm;rw[Nat.eq_of_beq_eq_true hb];have hA:ay E.P μ φ w id s et es:=hM.dq id _ hm;exact hA.2.1
      ·cases hb
     cases hz with
     |pv hz=>cases hz with
      |int xv=>
       cases hy with
       |oe hg=>refine⟨_,iW hu (by omega) hr.1.1 hr.1.2,?_⟩;have:=ab.oe (P:=E.P) (μ:=μ) (φ:=φ) (id:=id) (i:=i.toNat+j) (off:=off) hg;rw[Addr.add_mid,show j*(φ id).sz+off+i.toNat*aH E.P e=(i.toNat+j)*(φ id).sz+off by rw[jF,Nat.add_mul];omega];exact this
    ·rename_i hb;refine⟨_,_,fun m2 bY R' k'=>by have:=bY (false,id) (by simp);simp only at this;simp only[cS,hu,this];rw[if_pos hr,hb],h,by simp,by simp[V.has],fun G w0 μ φ w y z hM hy hz=>?_⟩;cases hz with
     |pv hz=>cases hz with
      |int xv=>
       cases hy with
       |oe hg=>exact⟨_,iW hu (by omega) hr.1.1 hr.1.2,by rw[Addr.add_mid,Nat.add_assoc];exact .oe hg⟩
   ·cases h
  ·cases h
 ·cases h
theorem la{cs:List V}(h:mo x=some cs):(∀id,bO id cs=true→x.has id=true)∧∀(P:Program)(μ:Ro)(φ:Nat→aw)y,ab P μ φ x y→∃xs:Array Value,y=.agg xs∧cs.length=xs.size∧(∀(i:Nat)p x,cs[i]?=some p→xs[i]?=some x→ab P μ φ p x)∧(∀(i:Nat)(x:Value),xs[i]?=some x→x.oneCell'=true):=by
 unfold mo at h;split at h
 ·simp only[Option.some.injEq]at h;subst h;refine⟨fun id hid=>(by rw[IQ]at hid;cases hid),fun P μ φ y hy=>?_⟩;cases hy with
  |pv hy=>cases hy with
   |agg h1 h2 h3=>refine⟨_,rfl,by simpa using h1,fun i p x hi hx=>?_,h3⟩;simp only[List.getElem?_map,Option.map_eq_some_iff]at hi;obtain⟨q,hq,rfl⟩:=hi;exact .pv (h2 i q x hq hx)
 ·simp only[Option.some.injEq]at h;subst h;refine⟨fun id hid=>by simpa[V.has]using hid,fun P μ φ y hy=>?_⟩;cases hy with
  |agg h1 h2 h3=>exact⟨_,rfl,h1,h2,h3⟩
 ·cases h
variable{xs:Array Value}{off:Nat}
theorem uc(ha:aq P t=true):(part t xs off).run P w=.ok (.agg (xs.extract off (off+aH P t))) w:=by obtain⟨d,hu,_⟩:=yy ha;simp[part,vp hu,ha,wG hu]
theorem ud{d:TypeDesc}{y:Value}(hu:P.underlying t=some d)(ha:aq P t=false)(hy:xs[off]?=some y):(part t xs off).run P w=.ok y w:=by simp[part,vp hu,ha,hy]
theorem DF{cs:List V}(h:xY E t cs off k=some r):∃v,(∀(R':Type)(k':V→Option R'),xY E t cs off k'=k' v)∧k v=some r∧(∀id,v.has id=true→bO id cs=true)∧∀(μ:Ro)(φ:Nat→aw)(w:World)(xs:Array Value),cs.length=xs.size→(∀(i:Nat)p x,cs[i]?=some p→xs[i]?=some x→ab E.P μ φ p x)→(∀(i:Nat)(x:Value),xs[i]?=some x→x.oneCell'=true)→∃z,(part t xs off).run E.P w=.ok z w∧ab E.P μ φ v z:=by
 unfold xY at h;split at h
 ·rename_i ha;split at h
  ·rename_i hn;refine⟨_,fun R' k'=>by simp[xY,ha,hn],h,fun id hid=>?_,fun μ φ w xs h1 h2 h3=>⟨_,uc ha,?_⟩⟩
   ·simp only[V.has]at hid;obtain⟨v,hv,hh⟩:=cw.1 hid;exact bw (List.mem_of_mem_drop (List.mem_of_mem_take hv)) hh
   ·refine .agg (by simp;omega) (fun i p x hi hx=>?_) (fun i x hx=>?_)
    ·obtain⟨_,hi⟩:=dD hi;rw[Array.getElem?_extract]at hx;split at hx
     ·exact h2 _ p x hi hx
     ·cases hx
    ·rw[Array.getElem?_extract]at hx;split at hx
     ·exact h3 _ x hx
     ·cases hx
  ·cases h
 ·rename_i ha;have ha:aq E.P t=false:=by simpa using ha
  split at h
  ·rename_i v hv;obtain⟨u,h1,h2,h3,h4⟩:=DD h;obtain⟨d,hu⟩:=AW h;refine⟨u,fun R' k'=>by simp[xY,ha,hv,h1],h2,fun id hid=>bw (List.mem_of_getElem? hv) (h4 id hid),fun μ φ w xs g1 g2 g3=>?_⟩;have ba:off<cs.length:=(List.getElem?_eq_some_iff.1 hv).1;have hx:xs[off]?=some xs[off]:=Array.getElem?_eq_getElem (by omega);exact⟨_,ud hu ha hx,h3 _ _ _ _ (g2 off v _ hv hx)⟩
  ·cases h
theorem Kg(h:xZ E s x j k=some r):∃v,(∀(R':Type)(k':V→Option R'),xZ E s x j k'=k' v)∧k v=some r∧(∀id,v.has id=true→x.has id=true)∧∀(μ:Ro)(φ:Nat→aw)(w:World)(y:Value),ab E.P μ φ x y→∃z,(Instr.field s y j).run E.P w=.ok z w∧ab E.P μ φ v z:=by
 unfold xZ at h;split at h
 ·rename_i o t cs ho hc;obtain⟨fs,f,hu,hf,rfl,rfl,hz⟩:=wH ho;obtain⟨v,h1,h2,h3,h4⟩:=DF h;obtain⟨c1,c2⟩:=la hc;refine⟨v,fun R' k'=>by simp[xZ,ho,hc,h1],h2,fun id hid=>c1 id (h3 id hid),fun μ φ w y hy=>?_⟩;obtain⟨xs,rfl,g1,g2,g3⟩:=c2 _ _ _ _ hy;obtain⟨z,hz,hv⟩:=h4 μ φ w xs g1 g2 g3;exact⟨z,by simp[Instr.field,run_underlying hu,hf,Go.asAgg,hz],hv⟩
 ·cases h
theorem wf_u8(b:UInt8):(Lit.int .u8 b.toNat).wf=true:=by rw[pn];have:=b.toNat_lt;simp[IntKind.min,IntKind.max,IntKind.signed,IntKind.bits];omega
theorem Kh{ix:V}(h:vh E t x ix k=some r):∃v,(∀(R':Type)(k':V→Option R'),vh E t x ix k'=k' v)∧k v=some r∧(∀id,v.has id=true→x.has id=true)∧∀(μ:Ro)(φ:Nat→aw)(w:World)(y z:Value),ab E.P μ φ x y→ab E.P μ φ ix z→∃u,(Instr.index t y z).run E.P w=.ok u w∧ab E.P μ φ v u:=by
 unfold vh at h;split at h
 ·rename_i q i;split at h
  ·rename_i s hu;obtain⟨b,hb,hk⟩:=Option.bind_eq_some_iff.1 h;refine⟨_,fun R' k'=>by simp[vh,hu,hb],hk,by simp,fun μ φ w y z hy hz=>?_⟩;cases hz with
   |pv hz=>cases hz with
    |int xv=>
     cases hy with
     |pv hy=>cases hy with
      |str hl=>
       unfold Md at hb;split at hb
       ·rename_i h0;have ba:=(List.getElem?_eq_some_iff.1 hb).1;have fl:(⟨s.toArray⟩:ByteArray)[i.toNat]?=some b:=by
         rw[getElem?_def];have:i.toNat<(⟨s.toArray⟩:ByteArray).size:=by simpa[ByteArray.size]using ba
         rw[dif_pos this];have e:=(List.getElem?_eq_some_iff.1 hb).2;simp only[Option.some.injEq];rw[←e];rfl
        refine⟨_,?_,.pv (.int (wf_u8 b))⟩;simp[Instr.index,asIntOf,run_underlying hu,h0,fl]
       ·cases hb
  ·rename_i n et hu;split at h
   ·rename_i cs hc;split at h
    ·rename_i hn;obtain⟨v,h1,h2,h3,h4⟩:=DF h;obtain⟨c1,c2⟩:=la hc;refine⟨v,fun R' k'=>by simp only[vh,hu,hc];rw[if_pos hn,h1],h2,fun id hid=>c1 id (h3 id hid),fun μ φ w y z hy hz=>?_⟩;obtain⟨xs,rfl,g1,g2,g3⟩:=c2 _ _ _ _ hy;obtain⟨u,hu1,hv⟩:=h4 μ φ w xs g1 g2 g3;cases hz with
     |pv hz=>cases hz with
      |int xv=>refine⟨u,?_,hv⟩;have hr:=hn.1;unfold ag at hr;simp[Instr.index,asIntOf,run_underlying hu,hr.1,hr.2,gr (show aH E.P et≠0 by omega),hu1]
    ·cases h
   ·cases h
  ·cases h
 ·cases h
end
end Go.Ab
set_option linter.unusedVariables false
namespace Go.Ab
open Go.RowKit (Below)
section
variable {R:Type} {E:Env}
theorem yz(s:Bytes):(⟨s.toArray⟩:ByteArray).size=s.length:=by show s.toArray.size=_;simp
theorem yA{n:Nat}(h:n≤maxLen):(Lit.int .i64 (n:Int)).wf=true:=by rw[pn];simp only[maxLen]at h;simp[IntKind.min,IntKind.max,IntKind.signed,IntKind.bits];omega
variable{P:Program}{μ:Ro}{sz:Nat}{es:List PV}
theorem SV{x:Value}(h:af P μ (.rs sz es) x):∃a cap,x=.slice a es.length cap∧es.length≤maxLen:=by
 cases h with
 |iC=>exact⟨none,0,rfl,by simp⟩
 | @Dg _ cap a h=>exact⟨some a,cap,rfl,by simp⟩
 |rs X h1 h2=>exact⟨_,_,rfl,by omega⟩
variable{φ:Nat→aw}{m:Mem}{w:World}
theorem al.arr{G:Nat→Option (List PV)}{w0:bg}(hM:al P G w0 μ φ m w){id s:Nat}{et:TypeId}(hm:m id=some (.arr s et es)∨m id=some (.l6 s et es)):ay P μ φ w id s et es:=by
 rcases hm with hm|hm
 ·exact hM.dq id _ hm
 ·exact(hM.dq id _ hm).1
theorem ay.lb{id s:Nat}{et:TypeId}(h:ay P μ φ w id s et es):es.length≤(φ id).cap∧(φ id).cap≤maxLen:=by
 obtain⟨a1,a2,a3,a4,a5,a6,a7⟩:=h;refine⟨?_,a6⟩;split at a7
 ·rw[a7.1,a7.2];simp
 ·obtain⟨c,_,_,_,c3,_⟩:=a7;exact c3
variable{x:V}{k:Nat→aY→Option R}{r:R}
theorem PS(h:xr m x k=some r):∃n ft,(∀m2:Mem,(∀x∈ft,m2 x.2=m x.2)→∀(R':Type)(k':Nat→aY→Option R'),xr m2 x k'=k' n ft)∧k n ft=some r∧(∀x∈ft,x.1=false)∧∀(P:Program)(G:Nat→Option (List PV))(w0:bg)(μ:Ro)(φ:Nat→aw)(w:World)(y:Value),al P G w0 μ φ m w→ab P μ φ x y→(∀id,x.has id=true→(m id).isSome=true)→n≤maxLen∧∃a cap,y=.slice a n cap:=by
 unfold xr at h;split at h
 ·refine⟨_,_,fun m2 _ R' k'=>by simp[xr],h,by simp,fun P G w0 μ φ w y hM hy _=>?_⟩;cases hy with
  |pv hy=>obtain⟨a,cap,rfl,hl⟩:=SV hy;exact⟨hl,_,_,rfl⟩
 ·refine⟨_,_,fun m2 _ R' k'=>by simp[xr],h,by simp,fun P G w0 μ φ w y hM hy _=>?_⟩;cases hy;exact⟨by simp,_,_,rfl⟩
 ·rename_i id lo len;have key:∀(s:Nat)(et:TypeId)(es:List PV),(m id=some (.arr s et es)∨m id=some (.l6 s et es))→∀(P:Program)(G:Nat→Option (List PV))(w0:bg)(μ:Ro)(φ:Nat→aw)(w:World)(y:Value),al P G w0 μ φ m w→ab P μ φ (.eR id lo len) y→len≤maxLen∧∃a cap,y=.slice a len cap:=by
   intro s et es hm P G w0 μ φ w y hM hy;have hA:=hM.arr hm;have hl:=hA.lb;cases hy with
   |my=>exact⟨by simp,_,_,rfl⟩
   |eR hg Mv ha=>have:=hA.1;exact⟨by omega,_,_,rfl⟩
  split at h
  ·rename_i s et es hm;exact⟨_,_,fun m2 bY R' k'=>by have:=bY (false,id) (by simp);simp only at this;simp[xr,this,hm],h,by simp,fun P G w0 μ φ w y hM hy _=>key s et es (.inl hm) P G w0 μ φ w y hM hy⟩
  ·rename_i s et es hm;exact⟨_,_,fun m2 bY R' k'=>by have:=bY (false,id) (by simp);simp only at this;simp[xr,this,hm],h,by simp,fun P G w0 μ φ w y hM hy _=>key s et es (.inr hm) P G w0 μ φ w y hM hy⟩
  ·cases h
 ·rename_i id;split at h
  ·rename_i s et es hm;refine⟨_,_,fun m2 bY R' k'=>by have:=bY (false,id) (by simp);simp only at this;simp[xr,this,hm],h,by simp,fun P G w0 μ φ w y hM hy _=>?_⟩;have hA:=hM.arr (.inl hm);have hl:=hA.lb;obtain⟨a1,a2,a3,a4,a5,a6,a7⟩:=hA;refine⟨by omega,?_⟩;cases hy with
   |np hg=>rw[hg]at a7;simp only[a7.1];exact⟨_,_,rfl⟩
   |os hg=>rw[a1];exact⟨_,_,rfl⟩
  ·rename_i s et es hm;refine⟨_,_,fun m2 bY R' k'=>by have:=bY (false,id) (by simp);simp only at this;simp[xr,this,hm],h,by simp,fun P G w0 μ φ w y hM hy _=>?_⟩;have hA:=hM.arr (.inr hm);have hl:=hA.lb;obtain⟨a1,a2,a3,a4,a5,a6,a7⟩:=hA;refine⟨by omega,?_⟩;cases hy with
   |np hg=>rw[hg]at a7;simp only[a7.1];exact⟨_,_,rfl⟩
   |os hg=>rw[a1];exact⟨_,_,rfl⟩
  ·rename_i s et es hm;refine⟨_,_,fun m2 bY R' k'=>by have:=bY (false,id) (by simp);simp only at this;simp[xr,this,hm],h,by simp,fun P G w0 μ φ w y hM hy _=>?_⟩;have hA:aL P μ φ w id s et es:=hM.dq id _ hm;obtain⟨a1,a2,a3,a4,a5,a6,a7⟩:=hA;have hl:es.length≤(φ id).cap:=by
    split at a7
    ·rw[a7.1];simp
    ·obtain⟨c,_,_,_,c3,_⟩:=a7;exact c3
   refine⟨by omega,?_⟩;cases hy with
   |np hg=>rw[hg]at a7;simp only[a7.1];exact⟨_,_,rfl⟩
   |os hg=>rw[a1];exact⟨_,_,rfl⟩
  ·rename_i cs hm;split at h
   ·rename_i hlen;refine⟨_,_,fun m2 bY R' k'=>by have:=bY (false,id) (by simp);simp only at this;simp[xr,this,hm,hlen],h,by simp,fun P G w0 μ φ w y hM hy _=>?_⟩;obtain⟨g,c,T,hg,hh,hs,hv,oO,vq⟩:=hM.dq id _ hm;refine⟨hlen,?_⟩;cases hy with
    |np bF=>rw[hg]at bF;cases bF
    |os bF=>rw[vq];exact⟨_,_,rfl⟩
   ·cases h
  ·cases h
 ·cases h
theorem PT(h:J9 sz m x k=some r):∃n ft,(∀m2:Mem,(∀x∈ft,m2 x.2=m x.2)→∀(R':Type)(k':Nat→aY→Option R'),J9 sz m2 x k'=k' n ft)∧k n ft=some r∧(∀x∈ft,x.1=false)∧∀(P:Program)(G:Nat→Option (List PV))(w0:bg)(μ:Ro)(φ:Nat→aw)(w:World)(y:Value),al P G w0 μ φ m w→ab P μ φ x y→(∀id,x.has id=true→(m id).isSome=true)→n≤maxLen∧∃a cap,y=.slice a n cap:=by
 unfold J9 at h;split at h
 ·rename_i id i off;split at h
  ·rename_i s et es hm;obtain⟨e,he,h⟩:=Option.bind_eq_some_iff.1 h;obtain⟨rs,hr,h⟩:=Option.bind_eq_some_iff.1 h;refine⟨_,_,fun m2 bY R' k'=>by have:=bY (false,id) (by simp);simp only at this;simp[J9,this,hm,he,hr],h,by simp,fun P G w0 μ φ w y hM hy _=>?_⟩;have hN:aL P μ φ w id s et es:=hM.dq id _ hm;obtain⟨_,_,_,_,⟨⟨ye,hA⟩,_⟩,_⟩:=hN.row he hr;have hl:=hA.lb;have a1:=hA.1;refine⟨by omega,?_⟩;have hy:=hy.FJ (ν:=μ);cases hy with
   |np hg=>have a7:=hA.2.2.2.2.2.2;simp only[hg]at a7;simp only[a7.1];exact⟨_,_,rfl⟩
   |os hg=>rw[a1];exact⟨_,_,rfl⟩
  ·cases h
 ·rename_i cq;obtain⟨n,ft,h1,h2,h3,h4⟩:=PS h;refine⟨n,ft,fun m2 bY R' k'=>?_,h2,h3,h4⟩;unfold J9;split
  ·exact absurd rfl (cq _ _ _)
  ·exact h1 m2 bY R' k'
theorem PU(h:Ka m x k=some r):∃n ft,(∀m2:Mem,(∀x∈ft,m2 x.2=m x.2)→∀(R':Type)(k':Nat→aY→Option R'),Ka m2 x k'=k' n ft)∧k n ft=some r∧(∀x∈ft,x.1=false)∧n≤maxLen∧∀(P:Program)(G:Nat→Option (List PV))(w0:bg)(μ:Ro)(φ:Nat→aw)(w:World)(y:Value)(t kt et ty:TypeId),P.underlying t=some (.map kt et)→al P G w0 μ φ m w→ab P μ φ x y→(Builtin.len_ #[t] ty #[y]).run P w=.ok (.int .i64 n) w:=by
 unfold Ka at h;split at h
 ·rename_i id;split at h
  ·rename_i kt es hm;split at h
   ·rename_i hl;refine⟨_,_,fun m2 bY R' k'=>by have:=bY (false,id) (by simp);simp only at this;simp[Ka,this,hm,hl],h,by simp,hl,fun P G w0 μ φ w y t kt et ty hu hM hy=>?_⟩;cases hy with
    | @om _ g hg=>obtain⟨g',en,clock,kk,bF,hh,hs,_⟩:=hM.dq id _ hm;rw[hg]at bF;simp only[Option.some.injEq]at bF;subst bF;simp[Builtin.len_,run_underlying hu,getObj,Sem.run,hh,goInt,hs]
   ·cases h
  ·cases h
 ·refine⟨_,_,fun m2 _ R' k'=>by simp[Ka],h,by simp,by simp,fun P G w0 μ φ w y t kt et ty hu hM hy=>?_⟩;cases hy with
  |pv hy=>cases hy;simp[Builtin.len_,run_underlying hu,goInt]
 ·cases h
variable{t:TypeId}
theorem PW{k:V→aY→Option R}(h:Dp E t x m k=some r):∃v ft,(∀m2:Mem,(∀x∈ft,m2 x.2=m x.2)→∀(R':Type)(k':V→aY→Option R'),Dp E t x m2 k'=k' v ft)∧k v ft=some r∧(∀x∈ft,x.1=false)∧(∀id,v.has id=false)∧∀(G:Nat→Option (List PV))(w0:bg)(μ:Ro)(φ:Nat→aw)(w:World)(y:Value)(ty:TypeId),al E.P G w0 μ φ m w→ab E.P μ φ x y→(∀id,x.has id=true→(m id).isSome=true)→∃z,(Builtin.len_ #[t] ty #[y]).run E.P w=.ok z w∧ab E.P μ φ v z:=by
 unfold Dp at h;split at h
 ·rename_i n e hu;split at h
  ·rename_i hn;exact⟨_,_,fun m2 _ R' k'=>by simp[Dp,hu,hn],h,by simp,by simp,fun G w0 μ φ w y ty hM hy _=>⟨_,by simp[Builtin.len_,run_underlying hu,goInt],.pv (.int (yA hn))⟩⟩
  ·cases h
 ·rename_i hu;split at h
  ·refine⟨_,_,fun m2 _ R' k'=>by simp[Dp,hu],h,by simp,by simp,fun G w0 μ φ w y ty hM hy _=>?_⟩;cases hy with
   |pv hy=>cases hy with
    | @str s hl=>exact⟨_,by simp[Builtin.len_,run_underlying hu,goInt,yz],.pv (.int (yA hl))⟩
  ·cases h
 ·rename_i e hu;obtain⟨n,ft,h1,h2,h3,h4⟩:=PT h;refine⟨_,ft,fun m2 bY R' k'=>by simp only[Dp,hu];rw[h1 m2 bY],h2,h3,by simp,fun G w0 μ φ w y ty hM hy hq=>?_⟩;obtain⟨hl,a,cap,rfl⟩:=h4 _ _ _ _ _ _ _ hM hy hq;exact⟨_,by simp[Builtin.len_,run_underlying hu,goInt],.pv (.int (yA hl))⟩
 ·rename_i kt et hu;obtain⟨n,ft,h1,h2,h3,hl,h4⟩:=PU h;refine⟨_,ft,fun m2 bY R' k'=>by simp only[Dp,hu];rw[h1 m2 bY],h2,h3,by simp,fun G w0 μ φ w y ty hM hy hq=>?_⟩;exact⟨_,h4 _ _ _ _ _ _ _ _ _ _ _ hu hM hy,.pv (.int (yA hl))⟩
 ·cases h
theorem yB{d i:Int}{v:Option V}(h:gD d v=some i):(v=none∧i=d)∨∃q,v=some (.pv (.int q i)):=by
 unfold gD at h;split at h
 ·simp only[Option.some.injEq]at h;exact .inl ⟨rfl,h.symm⟩
 ·simp only[Option.some.injEq]at h;subst h;exact .inr ⟨_,rfl⟩
 ·cases h
theorem run_sliceBound{P:Program}{w:World}{q:IntKind}{i:Int}{y:Nat}{code:BoundsCode}(h0:0≤i)(h1:i≤(y:Int)):(Instr.sliceBound (.int q i) y code).run P w=.ok i.toNat w:=by simp[Instr.sliceBound,asIntOf,h0,h1]
variable{yC lD:Option Value}
theorem iX{isS:Bool}{len cap:Nat}{l h:Int}{lo hi:Option V}(hl:gD 0 lo=some l)(hh:gD len hi=some h)(rl:∀v,lo=some v→∃y,yC=some y∧ab P μ φ v y)(rl0:lo=none→yC=none)(rh:∀v,hi=some v→∃y,lD=some y∧ab P μ φ v y)(rh0:hi=none→lD=none)(b0:0≤l)(b1:l≤h)(b2:h≤(len:Int))(b3:len≤cap):(Instr.sliceBounds isS len cap yC lD none).run P w=.ok (l.toNat,h.toNat,cap) w:=by
 have e1:∃y,(lD=none∧h=len)∨(lD=some y∧∃q,y=.int q h):=by
  rcases yB hh with⟨rfl,rfl⟩|⟨q,rfl⟩
  ·exact⟨undef,.inl ⟨rh0 rfl,rfl⟩⟩
  ·obtain⟨y,rfl,hy⟩:=rh _ rfl;cases hy with
   |pv hy=>cases hy with
    |int hw=>exact⟨_,.inr ⟨rfl,q,rfl⟩⟩
 have e2:∃y,(yC=none∧l=0)∨(yC=some y∧∃q,y=.int q l):=by
  rcases yB hl with⟨rfl,rfl⟩|⟨q,rfl⟩
  ·exact⟨undef,.inl ⟨rl0 rfl,rfl⟩⟩
  ·obtain⟨y,rfl,hy⟩:=rl _ rfl;cases hy with
   |pv hy=>cases hy with
    |int hw=>exact⟨_,.inr ⟨rfl,q,rfl⟩⟩
 clear rl rl0 rh rh0 hl hh;obtain⟨y,⟨rfl,rfl⟩|⟨rfl,q,rfl⟩⟩:=e1<;>obtain⟨z,⟨rfl,rfl⟩|⟨rfl,q',rfl⟩⟩:=e2
 ·simp[Instr.sliceBounds]
 ·have:= @run_sliceBound P w q' l len BoundsCode.sliceB b0 (by omega);simp[Instr.sliceBounds,this]
 ·have:= @run_sliceBound P w q h cap (if isS then BoundsCode.sliceAcap else .sliceAlen) (by omega) (by omega);simp[Instr.sliceBounds,this]
 ·have h1:= @run_sliceBound P w q h cap (if isS then BoundsCode.sliceAcap else .sliceAlen) (by omega) (by omega);have h2:= @run_sliceBound P w q' l h.toNat BoundsCode.sliceB b0 (by omega);simp[Instr.sliceBounds,h1,h2]
theorem str_slice{s:Bytes}{l h:Nat}(hl:l≤h)(hh:h≤s.length):(⟨s.toArray⟩:ByteArray).extract l h=⟨((s.take h).drop l).toArray⟩:=by apply ByteArray.ext;simp only[ByteArray.data_extract];apply Array.ext';simp[List.extract_eq_take_drop,List.drop_take]
theorem Mw{x:Value}{l h:Nat}(hx:af P μ (.rs sz es) x)(hl:l≤h)(hh:h≤es.length):∃a cap,x=.slice a es.length cap∧es.length≤cap∧af P μ (.rs sz ((es.take h).drop l)) (.slice (if cap=l then a else a.map (·.add (l*sz))) (h-l) (cap-l)):=by
 have hlen:((es.take h).drop l).length=h-l:=by simp;omega
 cases hx with
 |iC=>
  simp at hh;subst hh;have:l=0:=by omega
  subst this;exact⟨none,0,rfl,by simp,by simpa using af.iC⟩
 | @Dg _ cap a hc=>
  simp at hh;subst hh;have:l=0:=by omega
  subst this;refine⟨some a,cap,rfl,by simp,?_⟩;have:(if cap=0 then some a else(some a).map (·.add (0*sz)))=some a:=by split<;>simp[Addr.add]
  rw[this];exact .Dg hc
 | @rs _ _ b o cap X h1 h2 h3 h4 h5 h6=>
  refine⟨_,cap,rfl,h1,?_⟩;have ep:∀(i:Nat)e,((es.take h).drop l)[i]?=some e→es[l+i]?=some e:=fun i e hi=>(du (jP hi)).2;by_cases hz:h=l
  ·have:(es.take h).drop l=[]:=List.eq_nil_of_length_eq_zero (by omega);rw[this];have My:h-l=0:=by omega
   rw[My];split
   ·exact .Dg (by omega)
   ·simp only[Option.map_some];exact .Dg (by omega)
  ·have hc:cap≠l:=by omega
   rw[if_neg hc];simp only[Option.map_some,Addr.add_mid];have:=af.rs (P:=P) (μ:=μ) (sz:=sz) (es:=(es.take h).drop l) (b:=b) (o:=o+l*sz) (cap:=cap-l) (fun i j=>X (l+i) j) (by omega) (by omega) (fun i e hi=>h3 _ e (ep i e hi)) (fun i e j p hi hj=>by have:=h4 _ e j p (ep i e hi) hj;rw[Nat.add_mul]at this;rw[←this];congr 1;omega) (fun i e j p hi hj=>h5 _ e j p (ep i e hi) hj) (fun i e j p hi hj=>h6 _ e j p (ep i e hi) hj);rw[hlen]at this;exact this
theorem po{e:TypeId}{a:Option Addr}{len cap l h:Nat}(hu:P.underlying t=some (.slice e))(hz:aH P e≠0)(hb:(Instr.sliceBounds true len cap yC lD none).run P w=.ok (l,h,cap) w):(Instr.sliceAt t (.slice a len cap) yC lD none).run P w=.ok (.slice (if cap=l then a else a.map (·.add (l*aH P e))) (h-l) (cap-l)) w:=by simp[Instr.sliceAt,Instr.slice,run_underlying hu,hb,gr hz]
theorem Ki{lo hi mx:Option V}{k:V→aY→Option R}(h:pe E t x lo hi mx m k=some r):∃v ft,(∀m2:Mem,(∀x∈ft,m2 x.2=m x.2)→∀(R':Type)(k':V→aY→Option R'),pe E t x lo hi mx m2 k'=k' v ft)∧k v ft=some r∧(∀x∈ft,x.1=false)∧(∀id,v.has id=true→x.has id=true)∧∀(G:Nat→Option (List PV))(w0:bg)(μ:Ro)(φ:Nat→aw)(w:World)(y:Value)(yC lD Rv:Option Value),al E.P G w0 μ φ m w→ab E.P μ φ x y→(∀v,lo=some v→∃y,yC=some y∧ab E.P μ φ v y)→(lo=none→yC=none)→(∀v,hi=some v→∃y,lD=some y∧ab E.P μ φ v y)→(hi=none→lD=none)→(∀v,mx=some v→∃y,Rv=some y∧ab E.P μ φ v y)→(mx=none→Rv=none)→∃z,(Instr.sliceAt t y yC lD Rv).run E.P w=.ok z w∧ab E.P μ φ v z:=by
 unfold pe at h;split at h
 ·rename_i mv;split at h
  ·rename_i e id hu;split at h
   ·rename_i s et es hm;split at h
    ·rename_i qh hh qc c;split at h
     ·rename_i hb;refine⟨_,_,fun m2 bY R' k'=>by have:=bY (false,id) (by simp);simp only at this;simp only[pe,hu,this,hm];rw[if_pos hb],h,by simp,by simp[V.has],fun G w0 μ φ w y yC lD Rv hM hy r1 r2 r3 r4 r5 r6=>?_⟩;have hA:=hM.arr (.inl hm);have hle:=hA.lb;obtain⟨a1,a2,a3,a4,a5,a6,a7⟩:=hA;obtain⟨ym,rfl,hym⟩:=r5 _ rfl;have Vt:=r2 rfl;subst Vt;cases hym with
      |pv hym=>cases hym with
       |int hwc=>
        have hB:∀len cap:Nat,len=es.length→c≤(cap:Int)→(Instr.sliceBounds true len cap none lD (some (.int qc c))).run E.P w=.ok (0,hh.toNat,c.toNat) w:=by
         intro len cap hlen lE;have h1:= @run_sliceBound E.P w qc c cap BoundsCode.slice3Acap (by omega) lE;obtain⟨yh,rfl,hyh⟩:=r3 _ rfl;cases hyh with
         |pv hyh=>cases hyh with
          |int hwh=>have h2:= @run_sliceBound E.P w qh hh c.toNat BoundsCode.slice3B (by omega) (by omega);simp[Instr.sliceBounds,h1,h2]
        have hS:∀(a:Option Addr)(len cap:Nat),len=es.length→c≤(cap:Int)→(Instr.sliceAt t (.slice a len cap) none lD (some (.int qc c))).run E.P w=.ok (.slice (if c.toNat=0 then a else a.map (·.add (0*aH E.P e))) hh.toNat c.toNat) w:=by intro a len cap hlen lE;simp[Instr.sliceAt,Instr.slice,run_underlying hu,hB len cap hlen lE,gr (show aH E.P e≠0 by omega)]
        cases hy with
        |np hg=>
         rw[hg]at a7;have h0:es.length=0:=by rw[a7.1];rfl
         refine⟨_,hS none 0 0 h0.symm (by omega),?_⟩;have e1:hh.toNat=0:=by omega
         have e2:c.toNat=0:=by omega
         rw[e1,e2];exact .my hg
        | @os _ g hg=>
         refine⟨_,hS _ _ _ a1 (by omega),?_⟩;have:(if c.toNat=0 then some (⟨g,0,none⟩:Addr)else(some ⟨g,0,none⟩:Option Addr).map (·.add (0*aH E.P e)))=some ⟨g,0*(φ id).sz,none⟩:=by split<;>simp[Addr.add]
         rw[this];exact .eR hg (by omega) (.inl rfl) (by omega) (by omega)
     ·cases h
    ·cases h
   ·cases h
  ·cases h
 ·split at h
  ·rename_i s hu;split at h
   ·rename_i l hh hl IV;split at h
    ·rename_i hb;refine⟨_,_,fun m2 _ R' k'=>by simp only[pe,hu,hl,IV];rw[if_pos hb],h,by simp,by simp,fun G w0 μ φ w y yC lD Rv hM hy r1 r2 r3 r4 _ r6=>?_⟩;have ZX:=r6 rfl;subst ZX;cases hy with
     |pv hy=>cases hy with
      |str hlen=>have hB:=iX (P:=E.P) (w:=w) (isS:=false) (cap:=s.length) hl IV r1 r2 r3 r4 hb.1 hb.2.1 hb.2.2 (Nat.le_refl _);refine⟨_,?_,.pv (.str (s:=(s.take hh.toNat).drop l.toNat) (by simp;omega))⟩;simp only[Instr.sliceAt,Instr.slice,Sem.run_bind,run_underlying hu,Result.andThen_ok,yz,hB];simp only[Option.isSome_none,Bool.false_eq_true,if_false,Sem.run_bind,Sem.run_pure,Result.andThen_ok,hB];rw[str_slice (by omega) (by omega)]
    ·cases h
   ·cases h
  ·rename_i e sz es hu;split at h
   ·rename_i l hh hl IV;split at h
    ·rename_i hb;refine⟨_,_,fun m2 _ R' k'=>by simp only[pe,hu,hl,IV];rw[if_pos hb],h,by simp,by simp,fun G w0 μ φ w y yC lD Rv hM hy r1 r2 r3 r4 _ r6=>?_⟩;have ZX:=r6 rfl;subst ZX;cases hy with
     |pv hy=>obtain⟨a,cap,rfl,hc,hr⟩:=Mw (l:=l.toNat) (h:=hh.toNat) hy (by omega) (by omega);have hB:=iX (P:=E.P) (w:=w) (isS:=true) (cap:=cap) hl IV r1 r2 r3 r4 hb.1 hb.2.1 hb.2.2.1 hc;exact⟨_,po hu hb.2.2.2.2 hB,by rw[←hb.2.2.2.1];exact .pv hr⟩
    ·cases h
   ·cases h
  ·rename_i e id hu;have key:∀(s:Nat)(et:TypeId)(es:List PV)(l hh:Int),(m id=some (.arr s et es)∨m id=some (.l6 s et es))→gD 0 lo=some l→gD es.length hi=some hh→(0≤l∧l≤hh∧hh≤(es.length:Int)∧s=aH E.P e)→∀(G:Nat→Option (List PV))(w0:bg)(μ:Ro)(φ:Nat→aw)(w:World)(y:Value)(yC lD:Option Value),al E.P G w0 μ φ m w→ab E.P μ φ (.os id) y→(∀v,lo=some v→∃y,yC=some y∧ab E.P μ φ v y)→(lo=none→yC=none)→(∀v,hi=some v→∃y,lD=some y∧ab E.P μ φ v y)→(hi=none→lD=none)→∃z,(Instr.sliceAt t y yC lD none).run E.P w=.ok z w∧ab E.P μ φ (.eR id l.toNat (hh.toNat-l.toNat)) z:=by
    intro s et es l hh hm hl IV hb G w0 μ φ w y yC lD hM hy r1 r2 r3 r4;have hA:=hM.arr hm;have hle:=hA.lb;obtain⟨a1,a2,a3,a4,a5,a6,a7⟩:=hA;cases hy with
    |np hg=>
     rw[hg]at a7;have h0:es.length=0:=by rw[a7.1];rfl
     have hB:=iX (P:=E.P) (w:=w) (isS:=true) (cap:=0) hl IV r1 r2 r3 r4 hb.1 hb.2.1 hb.2.2.1 (by omega);rw[h0]at hB;refine⟨_,po hu (by omega) hB,?_⟩;have e1:l.toNat=0:=by omega
     have e2:hh.toNat=0:=by omega
     rw[e1,e2];exact .my hg
    | @os _ g hg=>
     have hB:=iX (P:=E.P) (w:=w) (isS:=true) (cap:=(φ id).cap) hl IV r1 r2 r3 r4 hb.1 hb.2.1 hb.2.2.1 (by omega);rw[←a1]at hB;refine⟨_,po hu (by omega) hB,?_⟩;by_cases hc:(φ id).cap=l.toNat
     ·rw[if_pos hc];by_cases h0:l.toNat=0
      ·rw[h0];exact .eR hg (by omega) (.inl (by simp)) (by omega) (by omega)
      ·exact .eR hg (by omega) (.inr ⟨hc,by omega⟩) (by omega) (by omega)
     ·rw[if_neg hc];simp only[Option.map_some,Addr.add_mid,Nat.zero_add];refine .eR hg (by omega) (.inl ?_) (by omega) (by omega);rw[a2,hb.2.2.2]
   split at h
   ·rename_i s et es hm;split at h
    ·rename_i l hh hl IV;split at h
     ·rename_i hb;exact⟨_,_,fun m2 bY R' k'=>by have:=bY (false,id) (by simp);simp only at this;simp only[pe,hu,this,hm,hl,IV];rw[if_pos hb],h,by simp,by simp[V.has],fun G w0 μ φ w y yC lD Rv hM hy r1 r2 r3 r4 _ r6=>by rw[r6 rfl];exact key s et es l hh (.inl hm) hl IV hb G w0 μ φ w y yC lD hM hy r1 r2 r3 r4⟩
     ·cases h
    ·cases h
   ·rename_i s et es hm;split at h
    ·rename_i l hh hl IV;split at h
     ·rename_i hb;exact⟨_,_,fun m2 bY R' k'=>by have:=bY (false,id) (by simp);simp only at this;simp only[pe,hu,this,hm,hl,IV];rw[if_pos hb],h,by simp,by simp[V.has],fun G w0 μ φ w y yC lD Rv hM hy r1 r2 r3 r4 _ r6=>by rw[r6 rfl];exact key s et es l hh (.inr hm) hl IV hb G w0 μ φ w y yC lD hM hy r1 r2 r3 r4⟩
     ·cases h
    ·cases h
   ·cases h
  ·cases h
end
end Go.Ab
