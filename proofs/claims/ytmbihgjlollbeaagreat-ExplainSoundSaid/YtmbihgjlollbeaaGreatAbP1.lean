import Derived.Test.YtmbihgjlollbeaaGreatAbEval
import Derived.Below
import Derived.Laws.CopyRow
import Derived.Deep.MidRow
set_option linter.all false
namespace Go.Ab
open Go.RowKit (Below)
abbrev Ro:=Nat→Option Obj
def ZF:Bool:=true
structure lM(B:Nat)(w w':World):Prop extends Below B w w' where
 drawn:ZF=true→w.drawn≤w'.drawn
namespace lM
theorem refl(B:Nat)(w:World):lM B w w:=⟨Below.refl B w,fun _=>akk _⟩
theorem trans{B:Nat}{a b c:World}(h:lM B a b)(k:lM B b c):lM B a c:=⟨h.toBelow.trans k.toBelow,fun u=>akT (h.drawn u) (k.drawn u)⟩
theorem mono{B B':Nat}{w w':World}(h:lM B w w')(hB:B'≤B):lM B' w w':=⟨h.toBelow.mono hB,h.drawn⟩
theorem drew{B:Nat}{a w:World}(h:lM B a w):lM B a w.drew:=⟨h.toBelow.drew,fun u=>amG (h.drawn u)⟩
theorem heap_alloc(w:World)(o:Obj)(k:Nat)(h:k<w.heap.size):(w.alloc o).heap[k]?=w.heap[k]?:=Below.heap_alloc w o k h
theorem alloc{B:Nat}{a w:World}(h:lM B a w)(hB:B≤w.heap.size)(o:Obj):lM B a (w.alloc o):=⟨h.toBelow.alloc hB o,h.drawn⟩
end lM
def Jmp.code:Jmp→Code
 |.ret=>.ret
 |.exit id=>.exit id
def M8.obj(rc:Loop):M8→Loop
 |.ready=>{rc with state:=.ready,pending:=none}
 |.busy=>{rc with state:=.busy,pending:=none}
 |.done j=>{rc with state:=.done,pending:=some j.code}
def cellAt(μ:Ro)(b o:Nat):Option Value:=match μ b with|some (.cells c _ _)=>c[o]?|_=>none
def A7(f:FuncId)(xs:Array Value):Value:=if f<Eu then .func (.func f) #[] xs else .func (.func (f-Eu)) xs #[]
variable{xs:Array Value}
theorem sa{f:FuncId}(h:Nat.blt f Eu=true):A7 f xs=.func (.func f) #[] xs:=AI (by rwa[ak6]at h)
theorem KZ{f:FuncId}(h:Nat.blt f Eu=false):A7 f xs=.func (.func (f-Eu)) xs #[]:=IS (by rw[←ak3,ak6]at h;omega)
theorem sb(f:FuncId)(xs:Array Value):∃g a b,A7 f xs=.func (.func g) a b:=by
 unfold A7;split
 ·simp
 simp
theorem HB(f:FuncId)(xs:Array Value):(A7 f xs).oneCell'=true:=by obtain⟨g,a,b,h⟩:=sb f xs;rw[h];rfl
inductive ah(P:Program)(μ:Ro):PV→Value→Prop
 |int {k:IntKind} {n:Int}:(Lit.int k n).wf=true→ah P μ (.int k n) (.int k n)
 |bool {b:Bool}:ah P μ (.bool b) (.bool b)
 |str {s:Bytes}:s.length≤maxLen→ah P μ (.str s) (.string ⟨s.toArray⟩)
 |agg {cs:List PV} {xs:Array Value}:cs.length=xs.size→(∀(i:Nat)p x,cs[i]?=some p→xs[i]?=some x→ah P μ p x)→(∀(i:Nat)(x:Value),xs[i]?=some x→x.oneCell'=true)→ah P μ (.agg cs) (.agg xs)
 |aO {cs:List PV} {xs:Array Value}:cs.length=xs.size→(∀(i:Nat)p x,cs[i]?=some p→xs[i]?=some x→ah P μ p x)→ah P μ (.aO cs) (.tuple xs)
 |rQ:ah P μ .rQ (.pointer none)
 |rp {cs:List PV} {b o:Nat} (X:Nat→Value):(∀(i:Nat)p,cs[i]?=some p→cellAt μ b (o+i)=some (X i))→(∀(i:Nat)p,cs[i]?=some p→ah P μ p (X i))→(∀i:Nat,i<cs.length→(X i).oneCell'=true)→ah P μ (.rp cs) (.pointer (some ⟨b,o,none⟩))
 |lG {sz:Nat}:ah P μ (.rs sz []) (.slice none 0 0)
 |G2 {sz cap:Nat} {a:Addr}:cap≤maxLen→ah P μ (.rs sz []) (.slice (some a) 0 cap)
 |rs {sz:Nat} {es:List PV} {b o cap:Nat} (X:Nat→Nat→Value):es.length≤cap→cap≤maxLen→(∀(i:Nat)e,es[i]?=some e→e.cells.length=sz)→(∀(i:Nat)e(j:Nat)p,es[i]?=some e→e.cells[j]?=some p→cellAt μ b (o+i*sz+j)=some (X i j))→(∀(i:Nat)e(j:Nat)p,es[i]?=some e→e.cells[j]?=some p→ah P μ p (X i j))→(∀(i:Nat)e(j:Nat)p,es[i]?=some e→e.cells[j]?=some p→(X i j).oneCell'=true)→ah P μ (.rs sz es) (.slice (some ⟨b,o,none⟩) es.length cap)
 |vq:ah P μ .vq (.map none)
 |rm {kt:TypeId} {ks vs:List PV} {b clock:Nat} {en:Array MapEntry} {kk:List Kd}:μ b=some (.map en clock)→en.size=ks.length→vs.length=ks.length→tx P kt=some kk→(∀(i:Nat)k,ks[i]?=some k→wv P kt kk k=true)→(∀(i:Nat)k e,ks[i]?=some k→en[i]?=some e→ah P μ k e.key)→(∀(i:Nat)v e,vs[i]?=some v→en[i]?=some e→ah P μ v e.val)→ah P μ (.rm kt ks vs) (.map (some b))
 |DN:ah P μ .DN .nilFunc
 |fn {f:FuncId} {cs:List PV} {xs:Array Value}:cs.length=xs.size→(∀(i:Nat)p x,cs[i]?=some p→xs[i]?=some x→ah P μ p x)→ah P μ (.fn f cs) (A7 f xs)
 |UX:ah P μ (.Zx false) .nilIface
 |ZG {t:TypeId} {x:Value}:ah P μ (.Zx true) (.iface t x)
 |bad {x:Value}:ah P μ .bad x
structure zC(P:Program)(μ:Ro)(g:Nat)(cs:List PV):Prop where
 rep:ah P μ (.rp cs) (.pointer (some ⟨g,0,none⟩))
 size:∃c T z,μ g=some (.cells c T z)∧c.size=cs.length
structure C6 where
 g:Option Nat
 cap:Nat
 len:Nat
 sz:Nat
 deriving Inhabited
structure aA extends C6 where
 row:Nat→Nat→C6:=fun _ _=>default
 deriving Inhabited
abbrev DQ(g:Option Nat)(cap len sz:Nat):aA:={g,cap,len,sz}
def C6.up(p:C6):aA:={toC6:=p}
inductive af(P:Program)(μ:Ro)(φ:Nat→aA):V→Value→Prop
 |pv {p:PV} {x:Value}:ah P μ p x→af P μ φ (.pv p) x
 |iy:af P μ φ .iy (.slice none 0 0)
 |op {id off g:Nat}:(φ id).g=some g→af P μ φ (.op id off) (.pointer (some ⟨g,off,none⟩))
 |oe {id i off g:Nat}:(φ id).g=some g→af P μ φ (.oe id i off) (.pointer (some ⟨g,i*(φ id).sz+off,none⟩))
 |tp {id:Nat}:(φ id).g=none→af P μ φ (.os id) (.slice none 0 0)
 |os {id g:Nat}:(φ id).g=some g→af P μ φ (.os id) (.slice (some ⟨g,0,none⟩) (φ id).len (φ id).cap)
 |rY {id:Nat}:(φ id).g=none→af P μ φ (.fR id 0 0) (.slice none 0 0)
 |fR {id lo len cap g:Nat} {a:Addr}:(φ id).g=some g→lo+len≤(φ id).len→(a=⟨g,lo*(φ id).sz,none⟩∨((φ id).cap=lo∧0<lo))→len≤cap→lo+cap≤(φ id).cap→af P μ φ (.fR id lo len) (.slice (some a) len cap)
 |Jb {id i off:Nat}:((φ id).row i off).g=none→af P μ φ (.xn id i off) (.slice none 0 0)
 |xn {id i off g:Nat}:((φ id).row i off).g=some g→af P μ φ (.xn id i off) (.slice (some ⟨g,0,none⟩) ((φ id).row i off).len ((φ id).row i off).cap)
 |AX {id i off s j off2 g:Nat}:((φ id).row i off).g=some g→((φ id).row i off).sz=s→af P μ φ (.AX id i off s j off2) (.pointer (some ⟨g,j*s+off2,none⟩))
 |om {id g:Nat}:(φ id).g=some g→af P μ φ (.om id) (.map (some g))
 |yl {id g:Nat}:(φ id).g=some g→af P μ φ (.yl id) (.func (.yield g) #[] #[])
 |it {id g:Nat}:(φ id).g=some g→af P μ φ (.it id) (.pointer (some ⟨g,0,none⟩))
 |fn {f:FuncId} {cs:List V} {xs:Array Value}:cs.length=xs.size→(∀(i:Nat)p x,cs[i]?=some p→xs[i]?=some x→af P μ φ p x)→af P μ φ (.fn f cs) (A7 f xs)
 |agg {cs:List V} {xs:Array Value}:cs.length=xs.size→(∀(i:Nat)p x,cs[i]?=some p→xs[i]?=some x→af P μ φ p x)→(∀(i:Nat)(x:Value),xs[i]?=some x→x.oneCell'=true)→af P μ φ (.agg cs) (.agg xs)
 |aO {cs:List V} {xs:Array Value}:cs.length=xs.size→(∀(i:Nat)p x,cs[i]?=some p→xs[i]?=some x→af P μ φ p x)→af P μ φ (.aO cs) (.tuple xs)
 |top {x:Value}:af P μ φ .top x
def aH(P:Program)(μ:Ro)(φ:Nat→aA)(w:World)(id sz:Nat)(et:TypeId)(es:List PV):Prop:=
 (φ id).len=es.length∧(φ id).sz=sz∧sz=aN P et∧0<sz∧(∀(i:Nat)e,es[i]?=some e→e.cells.length=sz)∧(φ id).cap≤maxLen∧
 match(φ id).g with
 |none=>es=[]∧(φ id).cap=0
 |some g=>∃(c:Array Value)(T:TypeId),w.heap[g]?=some (.cells c T (0,0))∧(φ id).cap*sz≤c.size∧es.length≤(φ id).cap∧(∀(i:Nat)e(j:Nat)p x,es[i]?=some e→e.cells[j]?=some p→c[i*sz+j]?=some x→ah P μ p x)∧(∀(i:Nat)(x:Value),i<es.length*sz→c[i]?=some x→x.oneCell'=true)
def bH.rowAt:bH→Nat→Nat→Bool
 |.nest _ _ es,i,off=>match es[i]? with
  |some e=>match e.cells[off]? with
   |some p=>p.isRow
   |none=>false
  |none=>false
 |.fh _ _ es,i,0=>match es[i]? with
  |some x=>x.2.isRow
  |none=>false
 |_,_,_=>false
def eF(P:Program)(μ:Ro)(R:C6)(w:World)(s:Nat)(rs:List PV)(x:Value):Prop:=(∃et,aH P μ (fun _=>R.up) w 0 s et rs)∧af P μ (fun _=>R.up) (.os 0) x
def ec(P:Program)(μ:Ro)(R:C6)(w:World)(p:PV)(x:Value):Prop:=match p with
 |.qS s rs=>eF P μ R w s rs x
 |p=>ah P μ p x
def aX(P:Program)(μ:Ro)(φ:Nat→aA)(w:World)(id sz:Nat)(et:TypeId)(es:List PV):Prop:=
 (φ id).len=es.length∧(φ id).sz=sz∧sz=aN P et∧0<sz∧(∀(i:Nat)e,es[i]?=some e→e.cells.length=sz)∧(φ id).cap≤maxLen∧
 match(φ id).g with
 |none=>es=[]∧(φ id).cap=0
 |some g=>∃(c:Array Value)(T:TypeId),w.heap[g]?=some (.cells c T (0,0))∧(φ id).cap*sz≤c.size∧es.length≤(φ id).cap∧(∀(i:Nat)e(j:Nat)p x,es[i]?=some e→e.cells[j]?=some p→c[i*sz+j]?=some x→ec P μ ((φ id).row i j) w p x)∧(∀(i:Nat)(x:Value),i<es.length*sz→c[i]?=some x→x.oneCell'=true)
def mF(en:Array MapEntry)(clock:Nat):Prop:=∀(i:Nat)e,en[i]?=some e→e.born<clock∧∀(j:Nat)e',en[j]?=some e'→e'.born=e.born→j=i
def lY(en:Array MapEntry)(seen:Array Nat):List MapEntry:=en.toList.filter fun e=> !seen.contains e.born
def gM(P:Program)(μ:Ro)(φ:Nat→aA)(w:World)(id:Nat):bH→Prop
 |.box cs=>∃(g:Nat)(c:Array Value)(T:TypeId),(φ id).g=some g∧w.heap[g]?=some (.cells c T (0,0))∧c.size=cs.length∧(∀(i:Nat)v x,cs[i]?=some v→c[i]?=some x→af P μ φ v x)∧(∀(i:Nat)(x:Value),c[i]?=some x→x.oneCell'=true)∧(φ id).len=cs.length
 |.arr sz et es=>aH P μ φ w id sz et es
 |.rD sz et es=>aH P μ φ w id sz et es∧∀g,(φ id).g=some g→(μ g).isSome
 |.map kt es=>∃(g:Nat)(en:Array MapEntry)(clock:Nat)(kk:List Kd),(φ id).g=some g∧w.heap[g]?=some (.map en clock)∧en.size=es.length∧tx P kt=some kk∧(∀(i:Nat)k v,es[i]?=some (k,v)→wv P kt kk k=true)∧mF en clock∧(∀(i:Nat)k v e,es[i]?=some (k,v)→en[i]?=some e→ah P μ k e.key∧ah P μ v e.val)
 |.nest sz et es=>aX P μ φ w id sz et es
 |.fh kt e0 es=>∃(g:Nat)(en:Array MapEntry)(clock:Nat)(kk:List Kd),(φ id).g=some g∧w.heap[g]?=some (.map en clock)∧en.size=es.length∧tx P kt=some kk∧(∀(i:Nat)k v,es[i]?=some (k,v)→wv P kt kk k=true)∧mF en clock∧(∀(i:Nat)k v e,es[i]?=some (k,v)→en[i]?=some e→ah P μ k e.key∧(match v with
  |.qS s rs=>aH P μ (fun _=>((φ id).row i 0).up) w 0 s e0 rs∧af P μ (fun _=>((φ id).row i 0).up) (.os 0) e.val
  |v=>ah P μ v e.val))
 |.iter t es cur=>∃(g mg:Nat)(en:Array MapEntry)(clock:Nat)(seen:Array Nat),(φ id).g=some g∧w.heap[g]?=some (.mapIter (some mg) clock seen clock)∧μ mg=some (.map en clock)∧mF en clock∧(lY en seen).length=es.length∧(∀(i:Nat)k v e,es[i]?=some (k,v)→(lY en seen)[i]?=some e→ah P μ k e.key∧ah P μ v e.val)∧∀k v,cur=some (k,v)→∃(i:Nat)(e:MapEntry),en[i]?=some e∧seen.back? =some e.born∧ah P μ k e.key∧ah P μ v e.val
 |.loop st=>∃(g:Nat)(rc:Loop),(φ id).g=some g∧w.heap[g]?=some (.loop (st.obj rc))
def bH.jR:bH→Bool
 |.rD .. =>false
 |_=>true
structure bA where
 w:World
 mu:Ro
 sv:Nat→Value
 dC:Ro:=fun _=>none
 nf:Ro:=fun _=>none
 rc:Nat→Option (Nat×Loop):=fun _=>none
abbrev bA.heap(B:bA):Array Obj:=B.w.heap
def bH.owns(b:bH)(p:aA)(g:Nat):Prop:=p.g=some g∨∃i off,b.rowAt i off=true∧(p.row i off).g=some g
def bH.apart(b:bH)(p:aA):Prop:=∀i off g,b.rowAt i off=true→(p.row i off).g=some g→p.g≠some g∧∀i' vz,b.rowAt i' vz=true→(p.row i' vz).g=some g→i'=i∧vz=off
structure av(P:Program)(G:Nat→Option (List PV))(w0:bA)(μ:Ro)(φ:Nat→aA)(m:Mem)(w:World):Prop where
 below:lM w0.heap.size w0.w w
 ro:∀b o,μ b=some o→w.heap[b]?=some o
 aG:∀g cs,G g=some cs→zC P μ g cs
 dy:∀id b,m id=some b→gM P μ φ w id b
 own:∀id b g,m id=some b→b.owns (φ id) g→w0.heap.size≤g∧(b.jR=true→μ g=none)
 inj:∀UY id2 b1 b2 g,m UY=some b1→m id2=some b2→b1.owns (φ UY) g→b2.owns (φ id2) g→UY=id2
 apart:∀id b,m id=some b→b.apart (φ id)
 fT:∀j cs id,m j=some (.box cs)→b8 id cs=true→(m id).isSome=true
 base:∀b o,μ b=some o→b<w0.heap.size→w0.mu b=some o
 dC:∀b o,w0.dC b=some o→μ b=some o
 C5:∀id st,m id=some (.loop st)→∃g rc,(φ id).g=some g∧w0.rc id=some (g,rc)∧w.heap[g]?=some (.loop (st.obj rc))
def bM(nt:Nat)(w0:bA)(a:Act):Nat→Value:=fun t=>if t<nt then a.tmps.getD t undef else w0.sv t
theorem rX{nt:Nat}{w0:bA}{a:Act}{t:Nat}(h:t<nt):bM nt w0 a t=a.tmps.getD t undef:=AI h
def Marks(B:Nat)(nf μ:Ro)(ds:List Deferred):Prop:=∃Ds:List Nat,ds=Ds.map (fun D=>{target:=.collected D,args:= #[]})∧Ds.Nodup∧∀D∈Ds,B≤D∧nf D=none∧μ D=some (.deferred (some []))
theorem Marks.nil(B:Nat)(nf μ:Ro):Marks B nf μ []:=⟨[],rfl,.nil,by simp⟩
theorem Marks.mono{B:Nat}{nf μ μ':Ro}(h:∀b o,μ b=some o→μ' b=some o){ds:List Deferred}:Marks B nf μ ds→Marks B nf μ' ds
 |⟨Ds,e,hn,hD⟩=>⟨Ds,e,hn,fun D hd=>⟨(hD D hd).1,(hD D hd).2.1,h _ _ (hD D hd).2.2⟩⟩
structure Rel(P:Program)(G:Nat→Option (List PV))(nt:Nat)(w0:bA)(μ:Ro)(φ:Nat→aA)(f:Fr)(m:Mem)(a:Act)(w:World):Prop extends av P G w0 μ φ m w where
 size:a.tmps.size=nt
 defers:Marks w0.heap.size w0.nf μ a.defers
 nf:∀b o,w0.nf b=some o→w0.dC b=some o
 fr:∀t,af P μ φ (f t) (bM nt w0 a t)
 live:∀t id,(f t).has id=true→(m id).isSome=true
section
variable {P:Program} {μ μ':Ro} {φ φ':Nat→aA}
variable{x:Value}
theorem C7(h:∀b o,μ b=some o→μ' b=some o){b o:Nat}(hx:cellAt μ b o=some x):cellAt μ' b o=some x:=by grind [cellAt]
variable{p:PV}
theorem ah.mono(h:∀b o,μ b=some o→μ' b=some o)(hp:ah P μ p x):ah P μ' p x:=by
 induction hp with
 |int h=>exact .int h
 |bool=>exact .bool
 |str h=>exact .str h
 |agg h1 _ h3 ih=>exact .agg h1 ih h3
 |aO h1 _ ih=>exact .aO h1 ih
 |rQ=>exact .rQ
 |rp X h1 _ h3 ih=>exact .rp X (fun i p hi=>C7 h (h1 i p hi)) ih h3
 |lG=>exact .lG
 |G2 h=>exact .G2 h
 |rs X h1 h2 h3 h4 _ h6 ih=>exact .rs X h1 h2 h3 (fun i e j p hi hj=>C7 h (h4 i e j p hi hj)) ih h6
 |vq=>exact .vq
 |rm h1 h2 h3 h4 h5 _ _ ih1 ih2=>exact .rm (h _ _ h1) h2 h3 h4 h5 ih1 ih2
 |DN=>exact .DN
 |fn h1 _ ih=>exact .fn h1 ih
 |UX=>exact .UX
 |ZG=>exact .ZG
 |bad=>exact .bad
theorem zC.mono(h:∀b o,μ b=some o→μ' b=some o){g:Nat}{cs:List PV}(hv:zC P μ g cs):zC P μ' g cs:=⟨hv.rep.mono h,let⟨c,T,z,h1,h2⟩:=hv.size;⟨c,T,z,h _ _ h1,h2⟩⟩
theorem bJ{id:Nat}{v:V}:∀{cs:List V},v∈cs→v.has id=true→b8 id cs=true
 |c::r,hm,hv=>by
  rcases ake.1 hm with rfl|hm
  ·simp[b8,hv]
  ·simp[b8,bJ hm hv]
theorem cz{id:Nat}:∀{cs:List V},b8 id cs=true↔∃v∈cs,v.has id=true
 |[]=>by simp[b8]
 |c::r=>by simp[b8,cz (cs:=r)]
theorem yT{id:Nat}{v:V}:∀{cs:List V},v∈cs→v.xo id=true→AY id cs=true
 |c::r,hm,hv=>by
  rcases ake.1 hm with rfl|hm
  ·simp[AY,hv]
  ·simp[AY,yT hm hv]
theorem af.mono(h:∀b o,μ b=some o→μ' b=some o){v:V}{x:Value}(hv:af P μ φ v x)(hφ:∀id,v.has id=true→φ' id=φ id):af P μ' φ' v x:=by
 induction hv with
 |pv hp=>exact .pv (hp.mono h)
 |iy=>exact .iy
 |op hg=>exact .op (by simp_all[V.has])
 | @oe id i off g hg=>have e:=hφ id (by simp[V.has]);have:=af.oe (P:=P) (μ:=μ') (φ:=φ') (id:=id) (i:=i) (off:=off) (g:=g) (by rw[e];omega);simp_all
 | @tp id hg=>exact .tp (by rw[hφ id (by simp[V.has])];omega)
 | @os id g hg=>have e:=hφ id (by simp[V.has]);have:=af.os (P:=P) (μ:=μ') (φ:=φ') (id:=id) (g:=g) (by rw[e];omega);simp_all
 | @rY id hg=>exact .rY (by rw[hφ id (by simp[V.has])];omega)
 | @fR id lo len cap g a hg hl ha hc hc'=>have e:=hφ id (by simp[V.has]);exact af.fR (P:=P) (μ:=μ') (φ:=φ') (id:=id) (lo:=lo) (len:=len) (cap:=cap) (g:=g) (a:=a) (by rw[e];omega) (by rw[e];omega) (by rw[e];omega) hc (by rw[e];omega)
 | @Jb id i off hg=>exact .Jb (by rw[hφ id (by simp[V.has])];omega)
 | @xn id i off g hg=>have e:=hφ id (by simp[V.has]);have:=af.xn (P:=P) (μ:=μ') (φ:=φ') (id:=id) (i:=i) (off:=off) (g:=g) (by rw[e];omega);simp_all
 | @AX id i off s j off2 g hg hs=>have e:=hφ id (by simp[V.has]);exact .AX (by rw[e];omega) (by rw[e];omega)
 | @om id g hg=>exact .om (by rw[hφ id (by simp[V.has])];omega)
 | @yl id g hg=>exact .yl (by rw[hφ id (by simp[V.has])];omega)
 | @it id g hg=>exact .it (by rw[hφ id (by simp[V.has])];omega)
 |fn h1 _ ih=>exact .fn h1 (fun i p x hi hx=>ih i p x hi hx (fun id hid=>hφ id (by simp only[V.has];exact bJ (aeB hi) hid)))
 |agg h1 _ h3 ih=>exact .agg h1 (fun i p x hi hx=>ih i p x hi hx (fun id hid=>hφ id (by simp only[V.has];exact bJ (aeB hi) hid))) h3
 |aO h1 _ ih=>exact .aO h1 (fun i p x hi hx=>ih i p x hi hx (fun id hid=>hφ id (by simp only[V.has];exact bJ (aeB hi) hid)))
 |top=>exact .top
variable{v:V}
theorem af.abJ(h:∀b o,μ b=some o→μ' b=some o)(hv:af P μ φ v x)(hφ:∀id,v.has id=true→(φ' id).toC6=(φ id).toC6∧(v.xo id=true→φ' id=φ id)):af P μ' φ' v x:=by
 induction hv with
 |pv hp=>exact .pv (hp.mono h)
 |iy=>exact .iy
 |op hg=>exact .op (by simp_all[V.has])
 | @oe id i off g hg=>have e:=(hφ id (by simp[V.has])).1;have:=af.oe (P:=P) (μ:=μ') (φ:=φ') (id:=id) (i:=i) (off:=off) (g:=g) (by rw[e];omega);simp_all
 | @tp id hg=>exact .tp (by rw[(hφ id (by simp[V.has])).1];omega)
 | @os id g hg=>have e:=(hφ id (by simp[V.has])).1;have:=af.os (P:=P) (μ:=μ') (φ:=φ') (id:=id) (g:=g) (by rw[e];omega);simp_all
 | @rY id hg=>exact .rY (by rw[(hφ id (by simp[V.has])).1];omega)
 | @fR id lo len cap g a hg hl ha hc hc'=>have e:=(hφ id (by simp[V.has])).1;exact af.fR (P:=P) (μ:=μ') (φ:=φ') (id:=id) (lo:=lo) (len:=len) (cap:=cap) (g:=g) (a:=a) (by rw[e];omega) (by rw[e];omega) (by rw[e];omega) hc (by rw[e];omega)
 | @Jb id i off hg=>exact .Jb (by rw[(hφ id (by simp[V.has])).2 (by simp[V.xo])];omega)
 | @xn id i off g hg=>have e:=(hφ id (by simp[V.has])).2 (by simp[V.xo]);have:=af.xn (P:=P) (μ:=μ') (φ:=φ') (id:=id) (i:=i) (off:=off) (g:=g) (by rw[e];omega);simp_all
 | @AX id i off s j off2 g hg hs=>have e:=(hφ id (by simp[V.has])).2 (by simp[V.xo]);exact .AX (by rw[e];omega) (by rw[e];omega)
 | @om id g hg=>exact .om (by rw[(hφ id (by simp[V.has])).1];omega)
 | @yl id g hg=>exact .yl (by rw[(hφ id (by simp[V.has])).1];omega)
 | @it id g hg=>exact .it (by rw[(hφ id (by simp[V.has])).1];omega)
 |fn h1 _ ih=>exact .fn h1 (fun i p x hi hx=>ih i p x hi hx (fun id hid=>⟨(hφ id (by simp only[V.has];exact bJ (aeB hi) hid)).1,fun h2=>(hφ id (by simp only[V.has];exact bJ (aeB hi) hid)).2 (by simp only[V.xo];exact yT (aeB hi) h2)⟩))
 |agg h1 _ h3 ih=>exact .agg h1 (fun i p x hi hx=>ih i p x hi hx (fun id hid=>⟨(hφ id (by simp only[V.has];exact bJ (aeB hi) hid)).1,fun h2=>(hφ id (by simp only[V.has];exact bJ (aeB hi) hid)).2 (by simp only[V.xo];exact yT (aeB hi) h2)⟩)) h3
 |aO h1 _ ih=>exact .aO h1 (fun i p x hi hx=>ih i p x hi hx (fun id hid=>⟨(hφ id (by simp only[V.has];exact bJ (aeB hi) hid)).1,fun h2=>(hφ id (by simp only[V.has];exact bJ (aeB hi) hid)).2 (by simp only[V.xo];exact yT (aeB hi) h2)⟩))
 |top=>exact .top
theorem af.zD(h:∀b o,μ b=some o→μ' b=some o)(hv:af P μ φ v x):af P μ' φ v x:=hv.mono h fun _ _=>rfl
theorem af.kill(id:Nat)(hv:af P μ φ v x):af P μ φ (tz id v) x:=by
 unfold tz;cases v.has id<;>simp
 ·omega
 ·exact .top
theorem af.zF(id:Nat)(hv:af P μ φ v x):af P μ φ (oN id v) x:=by
 unfold oN;cases v.xo id<;>simp
 ·omega
 ·exact .top
theorem yU{id j:Nat}(h:(oN id v).has j=true):v.has j=true∧(oN id v).xo id=false:=by grind [oN,id,V.has]
theorem ec.pure{R:C6}{w:World}(h:ah P μ p x):ec P μ R w p x:=by
 unfold ec;split
 ·cases h
 omega
theorem ec.PX{R:C6}{w:World}(h:ec P μ R w p x)(hp:p.isRow=false):ah P μ p x:=by
 unfold ec at h;split at h
 ·cases hp
 omega
theorem ah.Ea(h:ah P μ p x):p.isRow=false:=by cases h<;>rfl
theorem xy{id j:Nat}(h:(tz id v).has j=true):v.has j=true∧j≠id:=by grind [tz,id,V.has]
end
section
variable {P:Program} {G:Nat→Option (List PV)} {w0:bA} {μ:Ro} {φ:Nat→aA} {f:Fr} {m:Mem} {w:World}
@[simp] theorem ahW(p:PV)(id:Nat):(V.pv p).has id=false:=by rfl
@[simp] theorem ahT(id:Nat):V.top.has id=false:=by rfl
@[simp] theorem aeP(id:Nat):V.iy.has id=false:=by rfl
theorem PY(cs:List PV)(id:Nat):b8 id (cs.map .pv)=false:=by
 induction cs with
 |nil=>rfl
 |cons c r ih=>simp[b8,ih]
theorem mc(k:IntKind)(n:Int):(Lit.int k n).wf=true↔k.min≤n∧n≤k.max:=by simp[Lit.wf]
theorem wf_wrap(k:IntKind)(n:Int):(Lit.int k (k.wrap n)).wf=true:=by rw[mc];cases k<;>simp only[IntKind.wrap,IntKind.min,IntKind.max,IntKind.signed,IntKind.bits]<;>simp<;>(try split)<;>omega
theorem ah.one{p:PV}{x:Value}(h:ah P μ p x)(h1:∀cs,p≠.agg cs)(h2:∀cs,p≠.aO cs)(h3:p≠.bad):x.oneCell'=true:=by cases h<;>first|rfl|exact HB _ _|exact absurd rfl (h1 _)|exact absurd rfl (h2 _)|exact absurd rfl h3
theorem EM(c:Value):af P μ φ (B7 c) c:=by
 unfold B7;split
 ·split
  ·exact .pv (.int (by omega))
  ·exact .top
 ·exact .pv .bool
 ·rename_i s;split
  ·exact .pv (.str (by omega))
  ·exact .top
 ·exact .pv .rQ
 ·exact .iy
 ·exact .pv .vq
 ·exact .pv .DN
 ·exact .pv .UX
 ·exact .top
theorem EN(c:Value)(id:Nat):(B7 c).has id=false:=by unfold B7;split<;>(try split)<;>simp
theorem HC(c:Value)(id:Nat):(Hr c).has id=false:=by
 unfold Hr;split
 ·rename_i cs;split
  ·simp only[V.has];rw[Bool.eq_false_iff];intro h;obtain⟨v,hv,hh⟩:=cz.1 h;obtain⟨x,_,rfl⟩:=akt.1 hv;rw[EN]at hh;cases hh
  rfl
 ·exact EN _ _
theorem uM(c:Value):af P μ φ (Hr c) c:=by
 unfold Hr;split
 ·rename_i cs;split
  ·rename_i hc;refine .agg (by simp) (fun i p x hi hx=>?_) (fun i x hx=>?_)
   ·grind [Option.some.injEq,EM]
   ·rw[akJ]at hc;have:=hc x (by grind);cases x<;>first|rfl|(simp at this)
  ·exact .top
 ·exact EM _
end
section
variable {R:Type} {E:Env} {w0:bA} {μ:Ro} {φ:Nat→aA} {f:Fr} {m:Mem} {a:Act} {w:World}
theorem al(h:Rel E.P E.aG E.fn.ntmps w0 μ φ f m a w)(x:Operand):af E.P μ φ (bC E f x) (a.eval x)∧∀id,(bC E f x).has id=true→(m id).isSome=true:=by
 cases x with
 |tmp t=>
  simp only[bC];cases e:Nat.blt t E.fn.ntmps with
  |true=>
   have bZ:t<E.fn.ntmps:=by rwa[ak6]at e
   have:=h.fr t;rw[rX bZ]at this;exact⟨this,h.live t⟩
  |false=>exact⟨.top,fun id hid=>by cases hid⟩
 |const c=>exact⟨uM c,fun id hid=>by simp_all[bC,HC]⟩
 |global g=>
  simp only[bC];cases hg:E.aG g with
  |none=>exact⟨.top,by simp⟩
  |some cs=>exact⟨.pv (h.aG g cs hg).rep,by simp⟩
 |func g=>
  simp only[bC];cases e:Nat.blt g Eu with
  |true=>refine⟨?_,by simp[V.has,b8]⟩;have:=af.fn (P:=E.P) (μ:=μ) (φ:=φ) (f:=g) (cs:=[]) (xs:= #[]) (by simp) (by simp);rw[sa e]at this;exact this
  |false=>exact⟨.top,by simp⟩
variable{p:PV}
theorem pw{sz j:Nat}{q:PV}(h:(aC sz p)[j]?=some q):j<sz∧q=cell p j:=by
 unfold aC at h;have key:∀(n o j:Nat),(dS p o n)[j]?=some q→j<n∧q=cell p (o+j):=by
  intro n;induction n with
  |zero=>intro o j hj;simp[dS]at hj
  |succ n ih=>
   intro o j hj;cases j with
   |zero=>simp_all[dS]
   |succ j=>simp only[dS,alI]at hj;grind
 grind
theorem aW(sz:Nat)(p:PV):(aC sz p).length=sz:=by
 unfold aC;have:∀n o,(dS p o n).length=n:=by
  intro n;induction n with
  |zero=>intro o;rfl
  |succ n ih=>intro o;simp[dS,ih]
 exact this _ _
theorem er{sz:Nat}(h:p.cells.length=sz):aC sz p=p.cells:=by
 apply aks;intro j;by_cases hj:j<sz
 ·have h1:j<(aC sz p).length:=by rw[aW];omega
  have h2:=pw (cN h1);rw[cN h1,h2.2,cell,alV,cN (by omega)];rfl
 simp_all[alv,aW]
theorem ah.zG{P:Program}{μ:Ro}{n:Nat}{cs:List PV}{x:Value}(h:ah P μ (.agg cs) x)(hn:cs.length=n):ah P μ (.agg (aC n (.agg cs))) x:=by simp_all[er,PV.cells]
variable{t:TypeId}{k:PV→Option R}
theorem ma{r:R}(h:iB E t p k=some r):∃q,(∀(R':Type)(k':PV→Option R'),iB E t p k'=k' q)∧k q=some r∧(∀(P:Program)(μ:Ro)x,ah P μ p x→ah P μ q x)∧q≠.bad∧(∀cs,q≠.aO cs)∧(ax E.P t=false→∀cs,q≠.agg cs):=by
 unfold iB at h;split at h
 ·rename_i q hu;obtain⟨n,hn,hk⟩:=cT.1 h;have hp:p=.int q n:=by cases p<;>simp[asInt]at hn;simp_all
  grind [iB]
 ·rename_i hu;obtain⟨n,hn,hk⟩:=cT.1 h;have hp:p=.bool n:=by cases p<;>simp[asBool]at hn;subst hn;rfl
  grind [iB]
 ·rename_i hu;obtain⟨n,hn,hk⟩:=cT.1 h;have hp:p=.str n:=by cases p<;>simp[bu]at hn;subst hn;rfl
  grind [iB]
 ·rename_i e hu;obtain⟨es,hn,hk⟩:=cT.1 h;refine⟨.rs (aN E.P e) es,fun R' k'=>by simp[iB,hu,hn],hk,fun P μ x hx=>?_,by simp,by simp,by simp⟩;cases p<;>simp[aw]at hn;split at hn
  ·simp_all
  ·split at hn
   ·simp only[cO]at hn;subst hn;cases hx with
    |lG=>exact .lG
    |G2 h=>exact .G2 h
    |rs X h1 h2 _ _ _ _=>exact .G2 h2
   ·cases hn
 ·rename_i fs hu;obtain⟨u,hn,hk⟩:=cT.1 h;refine⟨_,fun R' k'=>by simp[iB,hu,hn],hk,fun P μ x hx=>?_,by simp,by simp,by simp[ax,hu]⟩;cases p<;>simp[asAgg]at hn;exact hx.zG hn
 ·rename_i n e hu;obtain⟨u,hn,hk⟩:=cT.1 h;refine⟨_,fun R' k'=>by simp[iB,hu,hn],hk,fun P μ x hx=>?_,by simp,by simp,by simp[ax,hu]⟩;cases p<;>simp[asAgg]at hn;exact hx.zG hn
 ·grind [iB]
 ·rename_i kt et hu;unfold cD at h;grind [iB,cD]
 ·grind [iB]
 ·rename_i ms hu;obtain⟨n,hn,hk⟩:=cT.1 h;have hp:p=.Zx n:=by cases p<;>simp[PR]at hn;subst hn;rfl
  grind [iB]
 ·cases h
theorem K0{v:V}{k:V→Option R}{r:R}(h:AZ E t v k=some r):∃u,(∀(R':Type)(k':V→Option R'),AZ E t v k'=k' u)∧k u=some r∧(∀(P:Program)(μ:Ro)(φ:Nat→aA)x,af P μ φ v x→af P μ φ u x)∧(∀id,u.has id=true→v.has id=true):=by
 unfold AZ at h;split at h
 ·obtain⟨q,h1,h2,h3,_⟩:=ma h;exact⟨.pv q,fun R' k'=>by simp[AZ,h1],h2,fun P μ φ x hx=>by cases hx with|pv hp=>exact .pv (h3 _ _ _ hp),by simp⟩
 ·cases h
 ·rename_i h1 h2;split at h
  ·rename_i hu;refine⟨v,fun R' k'=>?_,h,fun _ _ _ _ hx=>hx,fun _ h=>h⟩;unfold AZ;simp_all
  ·cases h
theorem xz{r:R}(h:iB E t p k=some r):∃d,E.P.underlying t=some d:=by unfold iB at h;grind
theorem HD{v:V}{k:V→Option R}{r:R}(h:AZ E t v k=some r):∃d,E.P.underlying t=some d:=by
 unfold AZ at h;split at h
 ·exact xz h
 ·cases h
 ·split at h
  ·rename_i hu;exact akq.1 hu
  ·cases h
end
section
variable {P:Program} {G:Nat→Option (List PV)} {w0:bA} {μ:Ro} {φ:Nat→aA} {m:Mem} {w:World}
variable{t:TypeId}{d:TypeDesc}
theorem C8(h:P.underlying t=some d):(P.info? t).map (·.size)=some (aN P t):=by grind [Program.underlying,aN]
theorem EO(h:ax P t=true):∃d,P.underlying t=some d∧d.isRow=true:=by unfold ax at h;grind
theorem Cl(hu:P.underlying t=some d):(isAgg t).run P w=.ok (ax P t) w:=by unfold isAgg;simp only[Sem.run_bind,run_underlying hu,Result.andThen_ok,ax,hu];cases d<;>rfl
theorem C9(hu:P.underlying t=some d):(sizeOf t).run P w=.ok (aN P t) w:=by
 have:=C8 hu;cases hi:P.info? t with
 |none=>simp[hi]at this
 |some i=>simp[sizeOf,typeInfo,hi,aN]
variable{o:Nat}
theorem iC{b:Nat}{y:Value}(hu:P.underlying t=some d)(ha:ax P t=false)(hc:w.cell? ⟨b,o,none⟩=some y):(Instr.loadAt t (.pointer (some ⟨b,o,none⟩))).run P w=.ok y w:=by simp only[Instr.loadAt,Instr.sureAddr,loadVar,Sem.run_bind,Sem.run_pure,Result.andThen_ok,Cl hu,ha];simp[load,Sem.run,hc]
theorem nv{b:Nat}{cs:List Value}(ha:ax P t=true)(hc:w.rangeAt b o cs)(hl:cs.length=aN P t):(Instr.loadAt t (.pointer (some ⟨b,o,none⟩))).run P w=.ok (.agg cs.toArray) w:=by grind [EO,run_loadAt_mid,C8]
theorem av.cellAt(hM:av P G w0 μ φ m w){b o:Nat}{x:Value}(h:cellAt μ b o=some x):w.cell? ⟨b,o,none⟩=some x:=by
 unfold Go.Ab.cellAt at h;split at h
 ·rename_i c t fz hb;simp[World.cell?,hM.ro _ _ hb,h]
 ·cases h
theorem dp{g:Nat}{c:Array Value}{T:TypeId}{fz:Nat×Nat}(h:w.heap[g]?=some (.cells c T fz)):w.cell? ⟨g,o,none⟩=c[o]?:=by simp[World.cell?,h]
theorem iD{T:Type}{l:List T}{n i:Nat}{x:T}(h:(l.take n)[i]?=some x):i<n∧l[i]?=some x:=by grind
theorem pz{T:Type}{l:List T}{n i:Nat}{x:T}(h:((l.drop o).take n)[i]?=some x):i<n∧l[o+i]?=some x:=by grind
theorem ah.acM{cs:List PV}{b n:Nat}{X:Nat→Value}(hM:av P G w0 μ φ m w)(h1:∀(i:Nat)p,cs[i]?=some p→Go.Ab.cellAt μ b (o+i)=some (X i))(h2:∀(i:Nat)p,cs[i]?=some p→ah P μ p (X i))(h3:∀i:Nat,i<cs.length→(X i).oneCell'=true)(hn:n≤cs.length):w.rangeAt b o ((List.range n).map X)∧ah P μ (.agg (cs.take n)) (.agg ((List.range n).map X).toArray):=by
 have hX:∀i x,((List.range n).map X)[i]?=some x→i<n∧x=X i:=by grind
 refine⟨fun j v hv=>?_,.agg (by simp;omega) (fun i p x hi hx=>?_) (fun i x hx=>?_)⟩
 ·obtain⟨hj,rfl⟩:=hX j v hv;exact hM.cellAt (h1 j _ (cN (by omega)))
 ·grind
 grind
end
section
variable {R:Type} {E:Env}
def Quiet(v:V)(m:Mem):Prop:=∀id,v.has id=true→(m id).isSome=true
theorem gT{g:V→Option PV}{cs:List V}{ps:List PV}(h:qT g cs=some ps):ps.length=cs.length∧∀(i:Nat)p,ps[i]?=some p→∃v,cs[i]?=some v∧g v=some p:=by
 induction cs generalizing ps with
 |nil=>simp[qT]at h;subst h;simp
 |cons c r ih=>simp only[qT]at h;obtain⟨p,hp,h⟩:=cT.1 h;obtain⟨ps',qe,h⟩:=cT.1 h;grind
variable{s off:Nat}{t:TypeId}{e:PV}
theorem HE{k:V→Option R}{r:R}(h:tN E s t e off k=some r):∃v,(∀(R':Type)(k':V→Option R'),tN E s t e off k'=k' v)∧k v=some r∧(∀id,v.has id=false)∧∀(μ:Ro)(φ:Nat→aA)(w:World)(g o:Nat)(c:Array Value)(T:TypeId),w.heap[g]?=some (.cells c T (0,0))→e.cells.length=s→(∀(j:Nat)p x,e.cells[j]?=some p→c[o+j]?=some x→ah E.P μ p x)→(∀(i:Nat)(x:Value),i<o+s→c[i]?=some x→x.oneCell'=true)→o+s≤c.size→∃y,(Instr.loadAt t (.pointer (some ⟨g,o+off,none⟩))).run E.P w=.ok y w∧af E.P μ φ v y:=by
 unfold tN at h;split at h
 ·rename_i ha;split at h
  ·rename_i hb;refine⟨_,fun R' k'=>by simp[tN,ha,hb],h,by simp,fun μ φ w g o c T hg hs hc h1 hl=>?_⟩;have hR:w.rangeAt g (o+off) ((c.toList.drop (o+off)).take (aN E.P t)):=fun j v hv=>by grind [pz,dp]
   refine⟨_,nv ha hR (by simp;omega),.pv (.agg (by simp[aW];omega) (fun i p x hi hx=>?_) (fun i x hx=>?_))⟩
   ·grind [pz,er,Nat.add_assoc]
   grind
  ·cases h
 ·rename_i ha;have ha:ax E.P t=false:=by simpa using ha
  split at h
  ·rename_i p hp;obtain⟨q,h1,h2,h3,_⟩:=ma h;obtain⟨d,hu⟩:=xz h;refine⟨.pv q,fun R' k'=>by simp[tN,ha,hp,h1],h2,by simp,fun μ φ w g o c T hg hs hc _ hl=>?_⟩;rw[er hs]at hp;have Sf:off<e.cells.length:=(By.1 hp).1;have hx:c[o+off]?=some c[o+off]:=OF (by omega);exact⟨_,iC hu ha (by rw[dp hg];omega),.pv (h3 _ _ _ (hc off p _ hp hx))⟩
  ·cases h
variable{p:PV}
theorem Sg{k:PV→Option R}{r:R}(h:iB E t p k=some r):p.isRow=false∧p≠.bad:=by
 cases p with
 |qS s es=>exfalso;unfold iB at h;split at h<;>simp[asInt,asBool,bu,aw,asAgg,PR,cD]at h
 |bad=>exfalso;unfold iB at h;split at h<;>simp[asInt,asBool,bu,aw,asAgg,PR,cD]at h
 |_=>exact⟨rfl,by simp⟩
theorem HF(h:cell e off=p)(hp:p≠.bad):e.cells[off]?=some p:=by grind [cell,absurd]
theorem K1{rs:List PV}(h:fi s p=some rs):p=.qS s rs:=by unfold fi at h;grind
variable{P:Program}{μ:Ro}{φ:Nat→aA}{w:World}{id i:Nat}{et:TypeId}{es:List PV}
theorem aX.cell{sz:Nat}(h:aX P μ φ w id sz et es){g:Nat}(hg:(φ id).g=some g)(he:es[i]?=some e)(hp:e.cells[off]?=some p):∃c T x,w.heap[g]?=some (.cells c T (0,0))∧c[i*sz+off]?=some x∧ec P μ ((φ id).row i off) w p x∧x.oneCell'=true:=by
 obtain⟨a1,a2,a3,a4,a5,a6,a7⟩:=h;rw[hg]at a7;obtain⟨c,T,c1,c2,c3,c4,c5⟩:=a7;have hi:i<es.length:=(By.1 he).1;have ho:off<sz:=by grind
 have h1:(i+1)*sz≤es.length*sz:=ahw _ (by omega);have h2:es.length*sz≤(φ id).cap*sz:=ahw _ c3;rw[akR]at h1;have bZ:i*sz+off<c.size:=by omega
 exact⟨c,T,c[i*sz+off],c1,OF bZ,c4 i e off p _ he hp (OF bZ),c5 (i*sz+off) _ (by omega) (OF bZ)⟩
theorem aX.row{sz:Nat}(h:aX P μ φ w id sz et es){rs:List PV}(he:es[i]?=some e)(hr:fi s (Go.Ab.cell e off)=some rs):∃g x,(φ id).g=some g∧w.cell? ⟨g,i*sz+off,none⟩=some x∧eF P μ ((φ id).row i off) w s rs x∧e.cells[off]?=some (.qS s rs):=by
 have hp:=HF (K1 hr) (by simp);cases hg:(φ id).g with
 |none=>obtain⟨a1,a2,a3,a4,a5,a6,a7⟩:=h;simp_all
 |some g=>obtain⟨c,_,x,c1,c2,c3,_⟩:=h.cell hg he hp;exact⟨g,x,rfl,by rw[dp c1];omega,c3,hp⟩
theorem af.acN{ν:Ro}{x:Value}(h:af P μ (fun _=>((φ id).row i off).up) (.os 0) x):af P ν φ (.xn id i off) x:=by
 cases h with
 |tp h=>exact .Jb h
 |os h=>exact .xn h
theorem af.Nv{ν:Ro}{x:Value}(h:af P μ φ (.xn id i off) x):af P ν (fun _=>((φ id).row i off).up) (.os 0) x:=by
 cases h with
 |Jb h=>exact .tp h
 |xn h=>exact .os (id:=0) (φ:=fun _=>((φ id).row i off).up) h
theorem HG{s:Nat}:∀{es:List PV}{k:Nat}{p:PV},(fS s es)[k]?=some p→∃i j e,k=i*s+j∧j<s∧es[i]?=some e∧(aC s e)[j]?=some p
 |[],k,p,h=>by simp[fS]at h
 |e::es,k,p,h=>by
  simp only[fS]at h;rw[akA,aW]at h;split at h
  ·exact⟨0,k,e,by omega,‹_›,rfl,h⟩
  ·obtain⟨i,j,e',h1,h2,h3,h4⟩:=HG h;exact⟨i+1,j,e',by rw[akR];omega,h2,by simpa using h3,h4⟩
theorem Cm{s:Nat}:∀{es:List PV},(fS s es).length=es.length*s
 |[]=>by simp[fS]
 |e::es=>by simp only[fS,ako,aW,Cm,akd,akR];omega
theorem HH(h:Cb E t s i off=true):ax E.P t=true∧i=0∧off=0∧∃n e,E.P.underlying t=some (.array n e)∧aN E.P e=s∧ax E.P e=true:=by
 unfold Cb at h;split at h
 ·rename_i n e hu;simp only[No]at h;grind [ax,Nat.eq_of_beq_eq_true]
 ·cases h
theorem aH.whole(hA:aH P μ φ w id s et es){g:Nat}(hg:(φ id).g=some g):∃xs:List Value,xs.length=es.length*s∧w.rangeAt g 0 xs∧ah P μ (.agg (fS s es)) (.agg xs.toArray):=by
 obtain⟨a1,a2,a3,a4,a5,a6,a7⟩:=hA;rw[hg]at a7;obtain⟨c,T,c1,c2,c3,c4,c5⟩:=a7;have hle:es.length*s≤c.size:=akT (ahw _ c3) c2;refine⟨c.toList.take (es.length*s),by simp;omega,fun j v hv=>?_,.agg (by rw[Cm];simp;omega) (fun k p x hp hx=>?_) (fun k x hx=>?_)⟩
 ·grind [dp]
 ·obtain⟨i,j,e,rfl,hj,he,hp⟩:=HG hp;grind [er]
 grind
theorem KY{own:Bool}{a:V}{m:Mem}{k:V→bq→Option R}{r:R}(h:qL E own t a m k=some r):∃v ft,(∀m2:Mem,(∀x∈ft,m2 x.2=m x.2)→∀(R':Type)(k':V→bq→Option R'),qL E own t a m2 k'=k' v ft)∧k v ft=some r∧(∀x∈ft,x.1=false)∧∀(G:Nat→Option (List PV))(w0:bA)(μ:Ro)(φ:Nat→aA)(w:World)(x:Value),av E.P G w0 μ φ m w→af E.P μ φ a x→∃y,(Instr.loadAt t x).run E.P w=.ok y w∧af E.P μ φ v y∧Quiet v m:=by
 unfold qL at h;split at h
 ·rename_i cs;split at h
  ·rename_i ha;split at h
   ·rename_i hn;refine⟨_,_,fun m2 _ R' k'=>by simp[qL,ha,hn],h,by simp,fun G w0 μ φ w x hM hx=>?_⟩;cases hx with
    |pv hp=>cases hp with
     |rp X h1 h2 h3=>obtain⟨hr,hv⟩:=ah.acM hM h1 h2 h3 hn;exact⟨_,nv ha hr (by simp),.pv hv,by simp[Quiet]⟩
   ·cases h
  ·rename_i ha;have ha:ax E.P t=false:=by simpa using ha
   obtain⟨p,Kt,h⟩:=cT.1 h;have hp1:cs[0]?=some p:=by simp_all[ama]
   obtain⟨q,h1,h2,h3,_⟩:=ma h;refine⟨_,_,fun m2 _ R' k'=>by simp[qL,ha,Kt,h1],h2,by simp,fun G w0 μ φ w x hM hx=>?_⟩;obtain⟨d,hu⟩:=xz h;cases hx with
   |pv hp=>cases hp with
    |rp X g1 g2 g3=>have hc:=hM.cellAt (g1 0 p hp1);exact⟨_,iC hu ha (by omega),.pv (h3 _ _ _ (g2 0 p hp1)),by simp[Quiet]⟩
 ·rename_i id off;split at h
  ·rename_i cs hm;split at h
   ·rename_i ha;split at h
    ·rename_i hn;refine⟨_,_,fun m2 cL R' k'=>by simp[qL,ha,hn,cL (false,id) (by simp),hm],h,by simp,fun G w0 μ φ w x hM hx=>?_⟩;cases hx with
     | @op _ _ g hg=>
      obtain⟨g',c,T,cS,hh,hs,hv,h1,EP⟩:=hM.dy id _ hm;rw[hg]at cS;simp only[cO]at cS;subst cS;have hR:w.rangeAt g off ((c.toList.drop off).take (aN E.P t)):=fun j v hv=>by grind [pz,dp]
      refine⟨_,nv ha hR (by simp;omega),.agg (by simp;omega) (fun i p x hi hx=>?_) (fun i x hx=>?_),?_⟩
      ·grind
      ·grind
      ·intro tl hid;simp only[V.has]at hid;obtain⟨v,hv,hh⟩:=cz.1 hid;exact hM.fT id cs tl hm (bJ (alm (ale hv)) hh)
    ·cases h
   ·rename_i ha;have ha:ax E.P t=false:=by simpa using ha
    split at h
    ·rename_i ps qe;obtain⟨p,Kt,h⟩:=cT.1 h;obtain⟨q,h1,h2,h3,_⟩:=ma h;refine⟨_,_,fun m2 cL R' k'=>by simp[qL,ha,cL (false,id) (by simp),hm,qe,Kt,h1],h2,by simp,fun G w0 μ φ w x hM hx=>?_⟩;cases hx with
     | @op _ _ g hg=>
      obtain⟨g',c,T,cS,hh,hs,hvv,_⟩:=hM.dy id _ hm;rw[hg]at cS;simp only[cO]at cS;subst cS;obtain⟨f1,f2⟩:=gT qe;obtain⟨bZ,hp1⟩:=By.1 Kt;have Sf:off<cs.length:=by omega
      obtain⟨v,hv,oF⟩:=f2 off p Kt;have hvp:v=.pv p:=by cases v<;>simp[pvO]at oF;subst oF;rfl
      subst hvp;have hx:c[off]?=some c[off]:=OF (by omega);obtain⟨d,hu⟩:=xz h;have hr:=hvv off _ _ hv hx;cases hr with
      |pv hr=>exact⟨_,iC hu ha (by rw[dp hh];omega),.pv (h3 _ _ _ hr),by simp[Quiet]⟩
    ·rename_i Zk;split at h
     ·rename_i v hv;obtain⟨u,h1,h2,h3,h4⟩:=K0 h;refine⟨_,_,fun m2 cL R' k'=>by simp[qL,ha,cL (false,id) (by simp),hm,Zk,hv,h1],h2,by simp,fun G w0 μ φ w x hM hx=>?_⟩;cases hx with
      | @op _ _ g hg=>obtain⟨g',c,T,cS,hh,hs,hvv,_⟩:=hM.dy id _ hm;rw[hg]at cS;simp only[cO]at cS;subst cS;have Sf:off<cs.length:=(By.1 hv).1;have hx:c[off]?=some c[off]:=OF (by omega);obtain⟨d,hu⟩:=HD h;refine⟨_,iC hu ha (by rw[dp hh];omega),h3 _ _ _ _ (hvv off v _ hv hx),fun tl hid=>?_⟩;exact hM.fT id cs tl hm (bJ (aeB hv) (h4 tl hid))
     ·cases h
  ·cases h
 ·rename_i id i off;have key:∀(sz:Nat)(et:TypeId)(es:List PV),(m id=some (.arr sz et es)∨m id=some (.rD sz et es))→((es[i]?).bind fun e=>tN E sz t e off fun v=>k v [(false,id)])=some r→∃v,(∀(R':Type)(k':V→bq→Option R'),((es[i]?).bind fun e=>tN E sz t e off fun v=>k' v [(false,id)])=k' v [(false,id)])∧k v [(false,id)]=some r∧∀(G:Nat→Option (List PV))(w0:bA)(μ:Ro)(φ:Nat→aA)(w:World)(x:Value),av E.P G w0 μ φ m w→af E.P μ φ (.oe id i off) x→∃y,(Instr.loadAt t x).run E.P w=.ok y w∧af E.P μ φ v y∧Quiet v m:=by
   intro sz et es hm hb;obtain⟨e,he,hb⟩:=cT.1 hb;obtain⟨v,h1,h2,h3,h4⟩:=HE hb;refine⟨v,fun R' k'=>by simp[he,h1],h2,fun G w0 μ φ w x hM hx=>?_⟩;have hA:aH E.P μ φ w id sz et es:=by
    rcases hm with hm|hm
    ·exact hM.dy id _ hm
    ·exact(hM.dy id _ hm).1
   cases hx with
   | @oe _ _ _ g hg=>
    obtain⟨a1,a2,a3,a4,a5,a6,a7⟩:=hA;rw[hg]at a7;obtain⟨c,T,c1,c2,c3,c4,c5⟩:=a7;have hi:i<es.length:=(By.1 he).1;obtain⟨y,hy,hv⟩:=h4 μ φ w g (i*sz) c T c1 (a5 i e he) (fun j p x hj hx=>c4 i e j p x he hj hx) (fun i' x qV hx=>c5 i' x (by
     have:(i+1)*sz≤es.length*sz:=ahw _ (by omega);grind) hx) (by
     have:(i+1)*sz≤(φ id).cap*sz:=ahw _ (by omega);grind)
    rw[a2];exact⟨y,hy,hv,fun id hid=>by simp_all⟩
  split at h
  ·rename_i sz et es hm;cases hw:Cb E t sz i off with
   |true=>
    rw[hw]at h;simp only[cond_true]at h;split at h
    ·rename_i hl;obtain⟨ha,rfl,rfl,_⟩:=HH hw;refine⟨_,_,fun m2 cL R' k'=>by have:=cL (false,id) (by simp);simp_all[qL,cond_true,AI],h,by simp,fun G w0 μ φ w x hM hx=>?_⟩;have hA:aH E.P μ φ w id sz et es:=hM.dy id _ hm;cases hx with
     | @oe _ _ _ g hg=>obtain⟨xs,x1,x2,x3⟩:=hA.whole hg;rw[ane];exact⟨_,nv ha x2 (by omega),.pv x3,by simp[Quiet]⟩
    ·cases h
   |false=>rw[hw]at h;obtain⟨v,h1,h2,h3⟩:=key sz et es (.inl hm) h;exact⟨v,_,fun m2 cL R' k'=>by have:=cL (false,id) (by simp);simp_all[qL,cond_false],h2,by simp,h3⟩
  ·rename_i sz et es hm;obtain⟨v,h1,h2,h3⟩:=key sz et es (.inr hm) h;exact⟨v,_,fun m2 cL R' k'=>by have:=cL (false,id) (by simp);simp_all[qL],h2,by simp,h3⟩
  ·rename_i sz et es hm;split at h
   ·cases h
   ·rename_i ha;obtain⟨e,he,h⟩:=cT.1 h;have ha':ax E.P t=false:=by simpa using ha
    split at h
    ·rename_i ho;split at h
     ·rename_i GX hu;obtain⟨rs,hr,h⟩:=cT.1 h;refine⟨_,_,fun m2 cL R' k'=>by have:=cL (false,id) (by simp);simp_all[qL,IS,akj,Ko],h,by simp,fun G w0 μ φ w x hM hx=>?_⟩;have hN:aX E.P μ φ w id sz et es:=hM.dy id _ hm;obtain⟨g,y,hg,hc,ng,_⟩:=hN.row he hr;cases hx with
      |oe cS=>rw[hg]at cS;simp only[cO]at cS;subst cS;rw[hN.2.1];refine⟨y,iC hu ha' hc,.acN ng.2,fun j hj=>?_⟩;have:=IN hj;subst this;rw[hm];rfl
     ·cases h
    ·rename_i ho;obtain⟨q,h1,h2,h3,_⟩:=ma h;obtain⟨hq1,hq2⟩:=Sg h;obtain⟨d,hu⟩:=xz h;refine⟨_,_,fun m2 cL R' k'=>by have:=cL (false,id) (by simp);simp_all[qL,IS,akj,abp,cQ],h2,by simp,fun G w0 μ φ w x hM hx=>?_⟩;have hN:aX E.P μ φ w id sz et es:=hM.dy id _ hm;cases hx with
     |oe hg=>obtain⟨c,_,y,c1,c2,c3,_⟩:=hN.cell hg he (HF rfl hq2);rw[hN.2.1];exact⟨y,iC hu ha' (by rw[dp c1];omega),.pv (h3 _ _ _ (c3.PX hq1)),by simp[Quiet]⟩
  ·cases h
 ·rename_i id i off s j off2;split at h
  ·rename_i sz et es hm;obtain⟨e,he,h⟩:=cT.1 h;obtain⟨rs,hr,h⟩:=cT.1 h;obtain⟨q,hq,h⟩:=cT.1 h;obtain⟨v,h1,h2,h3,h4⟩:=HE h;refine⟨v,_,fun m2 cL R' k'=>by have:=cL (false,id) (by simp);simp_all[qL,akj],h2,by simp,fun G w0 μ φ w x hM hx=>?_⟩;have hN:aX E.P μ φ w id sz et es:=hM.dy id _ hm;obtain⟨g,y,hg,hc,⟨⟨GX,hA⟩,hV⟩,_⟩:=hN.row he hr;cases hx with
   | @AX _ _ _ _ _ _ g' cS hs=>obtain⟨a1,a2,a3,a4,a5,a6,a7⟩:=hA;have hgu:((φ id).row i off).up.g=some g':=cS;rw[hgu]at a7;obtain⟨c,T,c1,c2,c3,c4,c5⟩:=a7;have hj:j<rs.length:=(By.1 hq).1;have e1:(j+1)*s≤rs.length*s:=ahw _ (by omega);have e2:rs.length*s≤((φ id).row i off).up.cap*s:=ahw _ c3;have e3:((φ id).row i off).up.cap*s≤c.size:=c2;rw[akR]at e1;obtain⟨y,hy,hv⟩:=h4 μ φ w g' (j*s) c T c1 (a5 j q hq) (fun l p x hl hx=>c4 j q l p x hq hl hx) (fun i' x qV hx=>c5 i' x (by omega) hx) (by omega);exact⟨y,hy,hv,fun id hid=>by simp_all⟩
  ·cases h
 ·cases h
end
section
variable {R:Type} {E:Env}
variable{s t:TypeId}{j o:Nat}
theorem Da(h:A0 E s j=some (o,t)):∃fs f,E.P.underlying s=some (.struct fs)∧fs[j]?=some f∧f.offset=o∧f.type=t∧aN E.P t≠0:=by unfold A0 at h;grind
variable{P:Program}
theorem yV(h:aN P t≠0):∃i,P.info? t=some i∧i.size=aN P t:=by
 unfold aN at*;cases hi:P.info? t with
 |none=>simp[hi]at h
 |some i=>simp
variable{w:World}
theorem jH(h:aN P t≠0):(sizeOf t).run P w=.ok (aN P t) w:=by obtain⟨i,hi,hs⟩:=yV h;simp[sizeOf,typeInfo,hi,hs]
theorem tB{fs:Array Field}{f:Field}{b:Nat}(hu:P.underlying s=some (.struct fs))(hf:fs[j]?=some f)(hz:aN P f.type≠0):(Instr.fieldAt s (.pointer (some ⟨b,o,none⟩)) j).run P w=.ok (.pointer (some ⟨b,o+f.offset,none⟩)) w:=by simp_all[Instr.fieldAt,run_underlying,Instr.sureAddr,fieldPlace,jH,Addr.add_mid]
theorem uN{T:Type}{l:List T}{i:Nat}{x:T}(h:(l.drop o)[i]?=some x):l[o+i]?=some x:=by simp_all
theorem ah.Jc{μ:Ro}{cs:List PV}{b:Nat}(n:Nat)(h:ah P μ (.rp cs) (.pointer (some ⟨b,o,none⟩))):ah P μ (.rp (cs.drop n)) (.pointer (some ⟨b,o+n,none⟩)):=by
 cases h with
 |rp X h1 h2 h3=>
  refine .rp (fun i=>X (n+i)) (fun i p hi=>?_) (fun i p hi=>h2 _ p (uN hi)) (fun i hi=>h3 _ ?_)
  ·grind
  ·simp at hi;omega
variable{x:V}{k:V→Option R}{r:R}
theorem G3(h:kr E s x j k=some r):∃v,(∀(R':Type)(k':V→Option R'),kr E s x j k'=k' v)∧k v=some r∧(∀id,v.has id=x.has id)∧∀(μ:Ro)(φ:Nat→aA)(w:World)(y:Value),af E.P μ φ x y→∃z,(Instr.fieldAt s y j).run E.P w=.ok z w∧af E.P μ φ v z:=by
 unfold kr at h;split at h
 ·rename_i o t ho;obtain⟨fs,f,hu,hf,rfl,rfl,hz⟩:=Da ho;split at h
  ·rename_i cs;refine⟨_,fun R' k'=>by simp[kr,ho],h,by simp,fun μ φ w y hy=>?_⟩;cases hy with
   |pv hp=>cases hp with
    |rp X h1 h2 h3=>exact⟨_,tB hu hf hz,.pv (ah.Jc _ (.rp X h1 h2 h3))⟩
  ·rename_i id off;refine⟨_,fun R' k'=>by simp[kr,ho],h,by simp[V.has],fun μ φ w y hy=>?_⟩;cases hy with
   |op hg=>exact⟨_,tB hu hf hz,.op hg⟩
  ·rename_i id i off;refine⟨_,fun R' k'=>by simp[kr,ho],h,by simp[V.has],fun μ φ w y hy=>?_⟩;cases hy with
   |oe hg=>exact⟨_,tB hu hf hz,by rw[akO];exact .oe hg⟩
  ·refine⟨_,fun R' k'=>by simp[kr,ho],h,by simp[V.has],fun μ φ w y hy=>?_⟩;cases hy with
   |AX hg hs=>exact⟨_,tB hu hf hz,by rw[akO];exact .AX hg hs⟩
  ·cases h
 ·cases h
theorem iE{e:TypeId}{q:IntKind}{i:Int}{ad:Addr}{len cap:Nat}(hu:P.underlying t=some (.slice e))(hz:aN P e≠0)(h0:0≤i)(h1:i<(len:Int)):(Instr.indexAt t (.slice (some ad) len cap) (.int q i)).run P w=.ok (.pointer (some (ad.add (i.toNat*aN P e)))) w:=by simp[Instr.indexAt,asIntOf,run_underlying hu,h0,h1,jH hz]
theorem me{e:TypeId}{n:Nat}{q:IntKind}{i:Int}{ad:Addr}(hu:P.underlying t=some (.array n e))(hz:aN P e≠0)(h0:0≤i)(h1:i<(n:Int)):(Instr.indexAt t (.pointer (some ad)) (.int q i)).run P w=.ok (.pointer (some (ad.add (i.toNat*aN P e)))) w:=by simp[Instr.indexAt,asIntOf,run_underlying hu,h0,h1,jH hz,Instr.sureAddr]
theorem ZH{es:List PV}{i:Int}{p:PV}(h:fj es i=some p):0≤i∧es[i.toNat]?=some p∧i<(es.length:Int):=by grind [fj]
theorem ah.PZ{μ:Ro}{sz:Nat}{es:List PV}{x:Value}{n:Nat}{p:PV}(h:ah P μ (.rs sz es) x)(hp:es[n]?=some p):∃b o cap,x=.slice (some ⟨b,o,none⟩) es.length cap∧ah P μ (.rp (aC sz p)) (.pointer (some ⟨b,o+n*sz,none⟩)):=by
 cases h with
 |lG=>simp at hp
 |G2 _=>simp at hp
 | @rs _ _ b o cap X h1 h2 h3 h4 h5 h6=>refine⟨b,o,cap,rfl,?_⟩;rw[er (h3 n p hp)];exact .rp (X n) (fun i q hi=>h4 n p i q hp hi) (fun i q hi=>h5 n p i q hp hi) (fun i hi=>h6 n p i _ hp (cN hi))
theorem G4{ix:V}{m:Mem}{k:V→bq→Option R}(h:cY E t x ix m k=some r):∃v ft,(∀m2:Mem,(∀x∈ft,m2 x.2=m x.2)→∀(R':Type)(k':V→bq→Option R'),cY E t x ix m2 k'=k' v ft)∧k v ft=some r∧(∀x∈ft,x.1=false)∧(∀id,v.has id=true→x.has id=true)∧∀(G:Nat→Option (List PV))(w0:bA)(μ:Ro)(φ:Nat→aA)(w:World)(y z:Value),av E.P G w0 μ φ m w→af E.P μ φ x y→af E.P μ φ ix z→∃u,(Instr.indexAt t y z).run E.P w=.ok u w∧af E.P μ φ v u:=by
 unfold cY at h;split at h
 ·rename_i q i;split at h
  ·rename_i e s es hu;split at h
   ·rename_i hs;obtain⟨p,hp,hk⟩:=cT.1 h;refine⟨_,_,fun m2 _ R' k'=>by simp only[cY,hu];rw[AI hs,hp];rfl,hk,by simp,by simp,fun G w0 μ φ w y z hM hy hz=>?_⟩;obtain⟨h0,hp,hl⟩:=ZH hp;cases hz with
    |pv hz=>cases hz with
     |int Eb=>
      cases hy with
      |pv hy=>obtain⟨b,o,cap,rfl,hr⟩:=hy.PZ hp;refine⟨_,iE hu (by omega) h0 hl,?_⟩;rw[Addr.add_mid,←hs.1];exact .pv hr
   ·cases h
  ·rename_i e id hu;have key:∀(s:Nat)(et:TypeId)(es:List PV),(m id=some (.arr s et es)∨m id=some (.rD s et es))→s=aN E.P e∧0<s→an i es.length→∀(G:Nat→Option (List PV))(w0:bA)(μ:Ro)(φ:Nat→aA)(w:World)(y z:Value),av E.P G w0 μ φ m w→af E.P μ φ (.os id) y→af E.P μ φ (.pv (.int q i)) z→∃u,(Instr.indexAt t y z).run E.P w=.ok u w∧af E.P μ φ (.oe id i.toNat 0) u:=by
    intro s et es hm hs hr G w0 μ φ w y z hM hy hz;have hA:aH E.P μ φ w id s et es:=by
     rcases hm with hm|hm
     ·exact hM.dy id _ hm
     ·exact(hM.dy id _ hm).1
    obtain⟨a1,a2,a3,a4,a5,a6,a7⟩:=hA;cases hz with
    |pv hz=>cases hz with
     |int Eb=>
      cases hy with
      |tp hg=>grind [an]
      | @os _ g hg=>refine⟨_,iE hu (by omega) hr.1 (by rw[a1];exact hr.2),?_⟩;rw[Addr.add_mid];have:=af.oe (P:=E.P) (μ:=μ) (φ:=φ) (id:=id) (i:=i.toNat) (off:=0) hg;simp_all
   split at h
   ·rename_i s et es hm;split at h
    ·rename_i hs;split at h
     ·rename_i hr;exact⟨_,_,fun m2 cL R' k'=>by have:=cL (false,id) (by simp);simp only at this;simp only[cY,hu,this,hm];grind,h,by simp,by simp[V.has],key s et es (.inl hm) hs hr⟩
     ·cases h
    ·cases h
   ·rename_i s et es hm;split at h
    ·rename_i hs;split at h
     ·rename_i hr;exact⟨_,_,fun m2 cL R' k'=>by have:=cL (false,id) (by simp);simp only at this;simp only[cY,hu,this,hm];grind,h,by simp,by simp[V.has],key s et es (.inr hm) hs hr⟩
     ·cases h
    ·cases h
   ·rename_i s et es hm;split at h
    ·rename_i hs;split at h
     ·rename_i hr;refine⟨_,_,fun m2 cL R' k'=>by have:=cL (false,id) (by simp);simp only at this;simp only[cY,hu,this,hm];grind,h,by simp,by simp[V.has],fun G w0 μ φ w y z hM hy hz=>?_⟩;have hA:aX E.P μ φ w id s et es:=hM.dy id _ hm;obtain⟨a1,a2,a3,a4,a5,a6,a7⟩:=hA;cases hz with
      |pv hz=>cases hz with
       |int Eb=>
        cases hy with
        |tp hg=>grind [an]
        | @os _ g hg=>refine⟨_,iE hu (by omega) hr.1 (by rw[a1];exact hr.2),?_⟩;rw[Addr.add_mid];have:=af.oe (P:=E.P) (μ:=μ) (φ:=φ) (id:=id) (i:=i.toNat) (off:=0) hg;simp_all
     ·cases h
    ·cases h
   ·rename_i cs hm;split at h
    ·rename_i hs;refine⟨_,_,fun m2 cL R' k'=>by have:=cL (false,id) (by simp);simp_all[cY,AI],h,by simp,by simp[V.has],fun G w0 μ φ w y z hM hy hz=>?_⟩;obtain⟨g,c,T,hg,hh,oP,hv,uO,EP⟩:=hM.dy id _ hm;cases hz with
     |pv hz=>cases hz with
      |int Eb=>
       cases hy with
       |tp cS=>simp_all
       | @os _ g' cS=>refine⟨_,iE hu (by omega) hs.2.1 (by rw[EP];exact hs.2.2),?_⟩;rw[Addr.add_mid,hs.1];have:=af.op (P:=E.P) (μ:=μ) (φ:=φ) (id:=id) (off:=i.toNat) cS;simpa using this
    ·cases h
   ·cases h
  ·rename_i e id i0 off hu;split at h
   ·rename_i s0 et0 es hm;split at h
    ·rename_i fl;obtain⟨e0,he,h⟩:=cT.1 h;obtain⟨rs,Ku,h⟩:=cT.1 h;split at h
     ·rename_i hr;refine⟨_,_,fun m2 cL R' k'=>by have:=cL (false,id) (by simp);simp_all[cY,AI,akj],h,by simp,by simp[V.has],fun G w0 μ φ w y z hM hy hz=>?_⟩;have hN:aX E.P μ φ w id s0 et0 es:=hM.dy id _ hm;obtain⟨_,_,_,_,⟨⟨GX,hA⟩,_⟩,_⟩:=hN.row he Ku;obtain⟨a1,a2,a3,a4,a5,a6,a7⟩:=hA;cases hz with
      |pv hz=>cases hz with
       |int Eb=>
        cases hy with
        |Jb hg=>have cS:((φ id).row i0 off).up.g=none:=hg;simp_all[an]
        | @xn _ _ _ g hg=>have a1':((φ id).row i0 off).len=rs.length:=a1;refine⟨_,iE hu (by omega) hr.1 (by rw[a1'];exact hr.2),?_⟩;rw[Addr.add_mid];have:=af.AX (P:=E.P) (μ:=μ) (φ:=φ) (id:=id) (i:=i0) (off:=off) (s:=aN E.P e) (j:=i.toNat) (off2:=0) hg a2;simpa using this
     ·cases h
    ·cases h
   ·cases h
  ·rename_i e id lo len hu;have key:∀(s:Nat)(et:TypeId)(es:List PV),(m id=some (.arr s et es)∨m id=some (.rD s et es))→s=aN E.P e∧0<s→an i len→∀(G:Nat→Option (List PV))(w0:bA)(μ:Ro)(φ:Nat→aA)(w:World)(y z:Value),av E.P G w0 μ φ m w→af E.P μ φ (.fR id lo len) y→af E.P μ φ (.pv (.int q i)) z→∃u,(Instr.indexAt t y z).run E.P w=.ok u w∧af E.P μ φ (.oe id (lo+i.toNat) 0) u:=by
    intro s et es hm hs hr G w0 μ φ w y z hM hy hz;have hA:aH E.P μ φ w id s et es:=by
     rcases hm with hm|hm
     ·exact hM.dy id _ hm
     ·exact(hM.dy id _ hm).1
    obtain⟨a1,a2,a3,a4,a5,a6,a7⟩:=hA;cases hz with
    |pv hz=>cases hz with
     |int Eb=>
      cases hy with
      |rY hg=>simp[an]at hr;omega
      | @fR _ _ _ DR g ad hg hl ha hc1 Us=>
       have ha:=ha.resolve_right fun hh=>by have:=hr.1;have:=hr.2;omega
       subst ha;refine⟨_,iE hu (by omega) hr.1 hr.2,?_⟩;rw[Addr.add_mid];have:=af.oe (P:=E.P) (μ:=μ) (φ:=φ) (id:=id) (i:=lo+i.toNat) (off:=0) hg;grind
   split at h
   ·rename_i s et es hm;split at h
    ·rename_i hs;split at h
     ·rename_i hr;exact⟨_,_,fun m2 cL R' k'=>by have:=cL (false,id) (by simp);simp only at this;simp only[cY,hu,this,hm];grind,h,by simp,by simp[V.has],key s et es (.inl hm) hs hr⟩
     ·cases h
    ·cases h
   ·rename_i s et es hm;split at h
    ·rename_i hs;split at h
     ·rename_i hr;exact⟨_,_,fun m2 cL R' k'=>by have:=cL (false,id) (by simp);simp only at this;simp only[cY,hu,this,hm];grind,h,by simp,by simp[V.has],key s et es (.inr hm) hs hr⟩
     ·cases h
    ·cases h
   ·cases h
  ·rename_i n e id off hu;split at h
   ·rename_i hr;refine⟨_,_,fun m2 _ R' k'=>by simp_all[cY,AI],h,by simp,by simp[V.has],fun G w0 μ φ w y z hM hy hz=>?_⟩;cases hz with
    |pv hz=>cases hz with
     |int Eb=>
      cases hy with
      |op hg=>exact⟨_,me hu (by omega) hr.1.1 hr.1.2,by rw[Addr.add_mid];exact .op hg⟩
   ·cases h
  ·rename_i n e cs hu;split at h
   ·rename_i hr;refine⟨_,_,fun m2 _ R' k'=>by simp_all[cY,AI],h,by simp,by simp,fun G w0 μ φ w y z hM hy hz=>?_⟩;cases hz with
    |pv hz=>cases hz with
     |int Eb=>
      cases hy with
      |pv hy=>cases hy with
       |rp X h1 h2 h3=>exact⟨_,me hu (by omega) hr.1.1 hr.1.2,by rw[Addr.add_mid];exact .pv (ah.Jc _ (.rp X h1 h2 h3))⟩
   ·cases h
  ·rename_i n e id j off hu;split at h
   ·rename_i hr;split at h
    ·rename_i hb;refine⟨_,_,fun m2 cL R' k'=>by have:=cL (false,id) (by simp);simp_all[cY,AI],h,by simp,by simp[V.has],fun G w0 μ φ w y z hM hy hz=>?_⟩;have oP:(φ id).sz=aN E.P e:=by
      split at hb
      ·rename_i s et es hm;rw[IN hb];have hA:aH E.P μ φ w id s et es:=hM.dy id _ hm;exact hA.2.1
      ·cases hb
     cases hz with
     |pv hz=>cases hz with
      |int Eb=>
       cases hy with
       |oe hg=>refine⟨_,me hu (by omega) hr.1.1 hr.1.2,?_⟩;have:=af.oe (P:=E.P) (μ:=μ) (φ:=φ) (id:=id) (i:=i.toNat+j) (off:=off) hg;grind [Addr.add_mid,id,aN,Nat.add_mul]
    ·rename_i hb;refine⟨_,_,fun m2 cL R' k'=>by have:=cL (false,id) (by simp);simp_all[cY,AI],h,by simp,by simp[V.has],fun G w0 μ φ w y z hM hy hz=>?_⟩;cases hz with
     |pv hz=>cases hz with
      |int Eb=>
       cases hy with
       |oe hg=>exact⟨_,me hu (by omega) hr.1.1 hr.1.2,by rw[Addr.add_mid,akO];exact .oe hg⟩
   ·cases h
  ·cases h
 ·cases h
theorem pM{cs:List V}(h:rU x=some cs):(∀id,b8 id cs=true→x.has id=true)∧∀(P:Program)(μ:Ro)(φ:Nat→aA)y,af P μ φ x y→∃xs:Array Value,y=.agg xs∧cs.length=xs.size∧(∀(i:Nat)p x,cs[i]?=some p→xs[i]?=some x→af P μ φ p x)∧(∀(i:Nat)(x:Value),xs[i]?=some x→x.oneCell'=true):=by
 unfold rU at h;split at h
 ·simp only[cO]at h;subst h;refine⟨fun id hid=>(by rw[PY]at hid;cases hid),fun P μ φ y hy=>?_⟩;cases hy with
  |pv hy=>cases hy with
   |agg h1 h2 h3=>refine⟨_,rfl,by simpa using h1,fun i p x hi hx=>?_,h3⟩;simp only[IT,acG]at hi;obtain⟨q,hq,rfl⟩:=hi;exact .pv (h2 i q x hq hx)
 ·simp only[cO]at h;subst h;refine⟨fun id hid=>by simpa[V.has]using hid,fun P μ φ y hy=>?_⟩;cases hy with
  |agg h1 h2 h3=>grind
 ·cases h
variable{xs:Array Value}{off:Nat}
theorem A8(ha:ax P t=true):(part t xs off).run P w=.ok (.agg (xs.extract off (off+aN P t))) w:=by obtain⟨d,hu,_⟩:=EO ha;simp_all[part,Cl,C9]
theorem A9{d:TypeDesc}{y:Value}(hu:P.underlying t=some d)(ha:ax P t=false)(hy:xs[off]?=some y):(part t xs off).run P w=.ok y w:=by simp[part,Cl hu,ha,hy]
theorem K2{cs:List V}(h:Ez E t cs off k=some r):∃v,(∀(R':Type)(k':V→Option R'),Ez E t cs off k'=k' v)∧k v=some r∧(∀id,v.has id=true→b8 id cs=true)∧∀(μ:Ro)(φ:Nat→aA)(w:World)(xs:Array Value),cs.length=xs.size→(∀(i:Nat)p x,cs[i]?=some p→xs[i]?=some x→af E.P μ φ p x)→(∀(i:Nat)(x:Value),xs[i]?=some x→x.oneCell'=true)→∃z,(part t xs off).run E.P w=.ok z w∧af E.P μ φ v z:=by
 unfold Ez at h;split at h
 ·rename_i ha;split at h
  ·rename_i hn;refine⟨_,fun R' k'=>by simp[Ez,ha,hn],h,fun id hid=>?_,fun μ φ w xs h1 h2 h3=>⟨_,A8 ha,?_⟩⟩
   ·simp only[V.has]at hid;obtain⟨v,hv,hh⟩:=cz.1 hid;grind [bJ,List.mem_of_mem_drop,List.mem_of_mem_take]
   ·refine .agg (by simp;omega) (fun i p x hi hx=>?_) (fun i x hx=>?_)
    ·grind
    grind [Array.getElem?_extract]
  ·cases h
 ·rename_i ha;have ha:ax E.P t=false:=by simpa using ha
  split at h
  ·rename_i v hv;obtain⟨u,h1,h2,h3,h4⟩:=K0 h;obtain⟨d,hu⟩:=HD h;refine⟨u,fun R' k'=>by simp[Ez,ha,hv,h1],h2,fun id hid=>bJ (aeB hv) (h4 id hid),fun μ φ w xs g1 g2 g3=>?_⟩;have bZ:off<cs.length:=(By.1 hv).1;have hx:xs[off]?=some xs[off]:=OF (by omega);grind [A9]
  ·cases h
theorem Si(h:EA E s x j k=some r):∃v,(∀(R':Type)(k':V→Option R'),EA E s x j k'=k' v)∧k v=some r∧(∀id,v.has id=true→x.has id=true)∧∀(μ:Ro)(φ:Nat→aA)(w:World)(y:Value),af E.P μ φ x y→∃z,(Instr.field s y j).run E.P w=.ok z w∧af E.P μ φ v z:=by
 unfold EA at h;split at h
 ·rename_i o t cs ho hc;obtain⟨fs,f,hu,hf,rfl,rfl,hz⟩:=Da ho;obtain⟨v,h1,h2,h3,h4⟩:=K2 h;obtain⟨c1,c2⟩:=pM hc;refine⟨v,fun R' k'=>by simp[EA,ho,hc,h1],h2,fun id hid=>c1 id (h3 id hid),fun μ φ w y hy=>?_⟩;obtain⟨xs,rfl,g1,g2,g3⟩:=c2 _ _ _ _ hy;obtain⟨z,hz,hv⟩:=h4 μ φ w xs g1 g2 g3;exact⟨z,by simp[Instr.field,run_underlying hu,hf,Go.asAgg,hz],hv⟩
 ·cases h
theorem wf_u8(b:UInt8):(Lit.int .u8 b.toNat).wf=true:=by rw[mc];have:=b.toNat_lt;simp[IntKind.min,IntKind.max,IntKind.signed,IntKind.bits];omega
theorem Sj{ix:V}(h:Ce E t x ix k=some r):∃v,(∀(R':Type)(k':V→Option R'),Ce E t x ix k'=k' v)∧k v=some r∧(∀id,v.has id=true→x.has id=true)∧∀(μ:Ro)(φ:Nat→aA)(w:World)(y z:Value),af E.P μ φ x y→af E.P μ φ ix z→∃u,(Instr.index t y z).run E.P w=.ok u w∧af E.P μ φ v u:=by
 unfold Ce at h;split at h
 ·rename_i q i;split at h
  ·rename_i s hu;obtain⟨b,hb,hk⟩:=cT.1 h;refine⟨_,fun R' k'=>by simp[Ce,hu,hb],hk,by simp,fun μ φ w y z hy hz=>?_⟩;cases hz with
   |pv hz=>cases hz with
    |int Eb=>
     cases hy with
     |pv hy=>cases hy with
      |str hl=>
       unfold Zy at hb;split at hb
       ·rename_i h0;have bZ:=(By.1 hb).1;have jc:(⟨s.toArray⟩:ByteArray)[i.toNat]?=some b:=by
         rw[getElem?_def];have:i.toNat<(⟨s.toArray⟩:ByteArray).size:=by simpa[ByteArray.size]using bZ
         rw[ank this];have e:=(By.1 hb).2;simp only[cO];rw[←e];rfl
        refine⟨_,?_,.pv (.int (wf_u8 b))⟩;simp[Instr.index,asIntOf,run_underlying hu,h0,jc]
       ·cases hb
  ·rename_i n et hu;split at h
   ·rename_i cs hc;split at h
    ·rename_i hn;obtain⟨v,h1,h2,h3,h4⟩:=K2 h;obtain⟨c1,c2⟩:=pM hc;refine⟨v,fun R' k'=>by simp only[Ce,hu,hc];rw[AI hn,h1],h2,fun id hid=>c1 id (h3 id hid),fun μ φ w y z hy hz=>?_⟩;obtain⟨xs,rfl,g1,g2,g3⟩:=c2 _ _ _ _ hy;obtain⟨u,hu1,hv⟩:=h4 μ φ w xs g1 g2 g3;cases hz with
     |pv hz=>cases hz with
      |int Eb=>refine⟨u,?_,hv⟩;have hr:=hn.1;unfold an at hr;simp[Instr.index,asIntOf,run_underlying hu,hr.1,hr.2,jH (show aN E.P et≠0 by omega),hu1]
    ·cases h
   ·cases h
  ·cases h
 ·cases h
end
section
variable {R:Type} {E:Env}
theorem ER(s:Bytes):(⟨s.toArray⟩:ByteArray).size=s.length:=by rfl
theorem ES{n:Nat}(h:n≤maxLen):(Lit.int .i64 (n:Int)).wf=true:=by grind [mc,maxLen,IntKind.min,IntKind.max,IntKind.signed,IntKind.bits]
variable{P:Program}{μ:Ro}{sz:Nat}{es:List PV}
theorem acO{x:Value}(h:ah P μ (.rs sz es) x):∃a cap,x=.slice a es.length cap∧es.length≤maxLen:=by
 cases h with
 |lG=>simp
 | @G2 _ cap a h=>simp
 |rs X h1 h2=>grind
variable{φ:Nat→aA}{m:Mem}{w:World}
theorem av.arr{G:Nat→Option (List PV)}{w0:bA}(hM:av P G w0 μ φ m w){id s:Nat}{et:TypeId}(hm:m id=some (.arr s et es)∨m id=some (.rD s et es)):aH P μ φ w id s et es:=by
 rcases hm with hm|hm
 ·exact hM.dy id _ hm
 ·exact(hM.dy id _ hm).1
theorem aH.pN{id s:Nat}{et:TypeId}(h:aH P μ φ w id s et es):es.length≤(φ id).cap∧(φ id).cap≤maxLen:=by obtain⟨a1,a2,a3,a4,a5,a6,a7⟩:=h;grind
variable{x:V}{k:Nat→bq→Option R}{r:R}
theorem ZI(h:G0 m x k=some r):∃n ft,(∀m2:Mem,(∀x∈ft,m2 x.2=m x.2)→∀(R':Type)(k':Nat→bq→Option R'),G0 m2 x k'=k' n ft)∧k n ft=some r∧(∀x∈ft,x.1=false)∧∀(P:Program)(G:Nat→Option (List PV))(w0:bA)(μ:Ro)(φ:Nat→aA)(w:World)(y:Value),av P G w0 μ φ m w→af P μ φ x y→(∀id,x.has id=true→(m id).isSome=true)→n≤maxLen∧∃a cap,y=.slice a n cap:=by
 unfold G0 at h;split at h
 ·refine⟨_,_,fun m2 _ R' k'=>by rfl,h,by simp,fun P G w0 μ φ w y hM hy _=>?_⟩;cases hy with
  |pv hy=>obtain⟨a,cap,rfl,hl⟩:=acO hy;simp_all
 ·refine⟨_,_,fun m2 _ R' k'=>by rfl,h,by simp,fun P G w0 μ φ w y hM hy _=>?_⟩;cases hy;simp
 ·rename_i id lo len;have key:∀(s:Nat)(et:TypeId)(es:List PV),(m id=some (.arr s et es)∨m id=some (.rD s et es))→∀(P:Program)(G:Nat→Option (List PV))(w0:bA)(μ:Ro)(φ:Nat→aA)(w:World)(y:Value),av P G w0 μ φ m w→af P μ φ (.fR id lo len) y→len≤maxLen∧∃a cap,y=.slice a len cap:=by
   intro s et es hm P G w0 μ φ w y hM hy;have hA:=hM.arr hm;have hl:=hA.pN;cases hy with
   |rY=>simp
   |fR hg hl' ha=>grind
  split at h
  ·rename_i s et es hm;exact⟨_,_,fun m2 cL R' k'=>by have:=cL (false,id) (by simp);simp_all[G0],h,by simp,fun P G w0 μ φ w y hM hy _=>key s et es (.inl hm) P G w0 μ φ w y hM hy⟩
  ·rename_i s et es hm;exact⟨_,_,fun m2 cL R' k'=>by have:=cL (false,id) (by simp);simp_all[G0],h,by simp,fun P G w0 μ φ w y hM hy _=>key s et es (.inr hm) P G w0 μ φ w y hM hy⟩
  ·cases h
 ·rename_i id;split at h
  ·rename_i s et es hm;refine⟨_,_,fun m2 cL R' k'=>by have:=cL (false,id) (by simp);simp_all[G0],h,by simp,fun P G w0 μ φ w y hM hy _=>?_⟩;have hA:=hM.arr (.inl hm);have hl:=hA.pN;obtain⟨a1,a2,a3,a4,a5,a6,a7⟩:=hA;refine⟨by omega,?_⟩;cases hy with
   |tp hg=>simp_all
   |os hg=>simp_all
  ·rename_i s et es hm;refine⟨_,_,fun m2 cL R' k'=>by have:=cL (false,id) (by simp);simp_all[G0],h,by simp,fun P G w0 μ φ w y hM hy _=>?_⟩;have hA:=hM.arr (.inr hm);have hl:=hA.pN;obtain⟨a1,a2,a3,a4,a5,a6,a7⟩:=hA;refine⟨by omega,?_⟩;cases hy with
   |tp hg=>simp_all
   |os hg=>simp_all
  ·rename_i s et es hm;refine⟨_,_,fun m2 cL R' k'=>by have:=cL (false,id) (by simp);simp_all[G0],h,by simp,fun P G w0 μ φ w y hM hy _=>?_⟩;have hA:aX P μ φ w id s et es:=hM.dy id _ hm;obtain⟨a1,a2,a3,a4,a5,a6,a7⟩:=hA;have hl:es.length≤(φ id).cap:=by grind
   refine⟨by omega,?_⟩;cases hy with
   |tp hg=>simp_all
   |os hg=>simp_all
  ·rename_i cs hm;split at h
   ·rename_i hlen;refine⟨_,_,fun m2 cL R' k'=>by have:=cL (false,id) (by simp);simp_all[G0],h,by simp,fun P G w0 μ φ w y hM hy _=>?_⟩;obtain⟨g,c,T,hg,hh,hs,hv,uO,EP⟩:=hM.dy id _ hm;refine⟨hlen,?_⟩;cases hy with
    |tp cS=>simp_all
    |os cS=>simp_all
   ·cases h
  ·cases h
 ·cases h
theorem ZJ(h:Sc sz m x k=some r):∃n ft,(∀m2:Mem,(∀x∈ft,m2 x.2=m x.2)→∀(R':Type)(k':Nat→bq→Option R'),Sc sz m2 x k'=k' n ft)∧k n ft=some r∧(∀x∈ft,x.1=false)∧∀(P:Program)(G:Nat→Option (List PV))(w0:bA)(μ:Ro)(φ:Nat→aA)(w:World)(y:Value),av P G w0 μ φ m w→af P μ φ x y→(∀id,x.has id=true→(m id).isSome=true)→n≤maxLen∧∃a cap,y=.slice a n cap:=by
 unfold Sc at h;split at h
 ·rename_i id i off;split at h
  ·rename_i s et es hm;obtain⟨e,he,h⟩:=cT.1 h;obtain⟨rs,hr,h⟩:=cT.1 h;refine⟨_,_,fun m2 cL R' k'=>by have:=cL (false,id) (by simp);simp_all[Sc],h,by simp,fun P G w0 μ φ w y hM hy _=>?_⟩;have hN:aX P μ φ w id s et es:=hM.dy id _ hm;obtain⟨_,_,_,_,⟨⟨GX,hA⟩,_⟩,_⟩:=hN.row he hr;have hl:=hA.pN;have a1:=hA.1;refine⟨by omega,?_⟩;have hy:=hy.Nv (ν:=μ);cases hy with
   |tp hg=>have a7:=hA.2.2.2.2.2.2;simp_all
   |os hg=>simp_all
  ·cases h
 ·rename_i cK;obtain⟨n,ft,h1,h2,h3,h4⟩:=ZI h;refine⟨n,ft,fun m2 cL R' k'=>?_,h2,h3,h4⟩;unfold Sc;simp_all
theorem ZK(h:UH m x k=some r):∃n ft,(∀m2:Mem,(∀x∈ft,m2 x.2=m x.2)→∀(R':Type)(k':Nat→bq→Option R'),UH m2 x k'=k' n ft)∧k n ft=some r∧(∀x∈ft,x.1=false)∧n≤maxLen∧∀(P:Program)(G:Nat→Option (List PV))(w0:bA)(μ:Ro)(φ:Nat→aA)(w:World)(y:Value)(t kt et ty:TypeId),P.underlying t=some (.map kt et)→av P G w0 μ φ m w→af P μ φ x y→(Builtin.len_ #[t] ty #[y]).run P w=.ok (.int .i64 n) w:=by
 unfold UH at h;split at h
 ·rename_i id;split at h
  ·rename_i kt es hm;split at h
   ·rename_i hl;refine⟨_,_,fun m2 cL R' k'=>by have:=cL (false,id) (by simp);simp_all[UH],h,by simp,hl,fun P G w0 μ φ w y t kt et ty hu hM hy=>?_⟩;cases hy with
    | @om _ g hg=>obtain⟨g',en,clock,kk,cS,hh,hs,_⟩:=hM.dy id _ hm;simp_all[cO,Builtin.len_,run_underlying,getObj,Sem.run,goInt]
   ·cases h
  ·cases h
 ·refine⟨_,_,fun m2 _ R' k'=>by rfl,h,by simp,by simp,fun P G w0 μ φ w y t kt et ty hu hM hy=>?_⟩;cases hy with
  |pv hy=>cases hy;simp[Builtin.len_,run_underlying hu,goInt]
 ·cases h
variable{t:TypeId}
theorem ZL{k:V→bq→Option R}(h:KM E t x m k=some r):∃v ft,(∀m2:Mem,(∀x∈ft,m2 x.2=m x.2)→∀(R':Type)(k':V→bq→Option R'),KM E t x m2 k'=k' v ft)∧k v ft=some r∧(∀x∈ft,x.1=false)∧(∀id,v.has id=false)∧∀(G:Nat→Option (List PV))(w0:bA)(μ:Ro)(φ:Nat→aA)(w:World)(y:Value)(ty:TypeId),av E.P G w0 μ φ m w→af E.P μ φ x y→(∀id,x.has id=true→(m id).isSome=true)→∃z,(Builtin.len_ #[t] ty #[y]).run E.P w=.ok z w∧af E.P μ φ v z:=by
 unfold KM at h;split at h
 ·rename_i n e hu;split at h
  ·rename_i hn;exact⟨_,_,fun m2 _ R' k'=>by simp[KM,hu,hn],h,by simp,by simp,fun G w0 μ φ w y ty hM hy _=>⟨_,by simp[Builtin.len_,run_underlying hu,goInt],.pv (.int (ES hn))⟩⟩
  ·cases h
 ·rename_i hu;split at h
  ·refine⟨_,_,fun m2 _ R' k'=>by simp[KM,hu],h,by simp,by simp,fun G w0 μ φ w y ty hM hy _=>?_⟩;cases hy with
   |pv hy=>cases hy with
    | @str s hl=>exact⟨_,by simp[Builtin.len_,run_underlying hu,goInt,ER],.pv (.int (ES hl))⟩
  ·cases h
 ·rename_i e hu;obtain⟨n,ft,h1,h2,h3,h4⟩:=ZJ h;refine⟨_,ft,fun m2 cL R' k'=>by simp only[KM,hu];rw[h1 m2 cL],h2,h3,by simp,fun G w0 μ φ w y ty hM hy hq=>?_⟩;obtain⟨hl,a,cap,rfl⟩:=h4 _ _ _ _ _ _ _ hM hy hq;exact⟨_,by simp[Builtin.len_,run_underlying hu,goInt],.pv (.int (ES hl))⟩
 ·rename_i kt et hu;obtain⟨n,ft,h1,h2,h3,hl,h4⟩:=ZK h;refine⟨_,ft,fun m2 cL R' k'=>by simp only[KM,hu];rw[h1 m2 cL],h2,h3,by simp,fun G w0 μ φ w y ty hM hy hq=>?_⟩;exact⟨_,h4 _ _ _ _ _ _ _ _ _ _ _ hu hM hy,.pv (.int (ES hl))⟩
 ·cases h
theorem ET{d i:Int}{v:Option V}(h:jQ d v=some i):(v=none∧i=d)∨∃q,v=some (.pv (.int q i)):=by unfold jQ at h;grind
theorem run_sliceBound{P:Program}{w:World}{q:IntKind}{i:Int}{y:Nat}{code:BoundsCode}(h0:0≤i)(h1:i≤(y:Int)):(Instr.sliceBound (.int q i) y code).run P w=.ok i.toNat w:=by simp[Instr.sliceBound,asIntOf,h0,h1]
variable{EU qV:Option Value}
theorem mf{isS:Bool}{len cap:Nat}{l h:Int}{lo hi:Option V}(hl:jQ 0 lo=some l)(hh:jQ len hi=some h)(rl:∀v,lo=some v→∃y,EU=some y∧af P μ φ v y)(rl0:lo=none→EU=none)(rh:∀v,hi=some v→∃y,qV=some y∧af P μ φ v y)(rh0:hi=none→qV=none)(b0:0≤l)(b1:l≤h)(b2:h≤(len:Int))(b3:len≤cap):(Instr.sliceBounds isS len cap EU qV none).run P w=.ok (l.toNat,h.toNat,cap) w:=by
 have e1:∃y,(qV=none∧h=len)∨(qV=some y∧∃q,y=.int q h):=by
  rcases ET hh with⟨rfl,rfl⟩|⟨q,rfl⟩
  ·simp_all
  ·obtain⟨y,rfl,hy⟩:=rh _ rfl;cases hy with
   |pv hy=>cases hy with
    |int hw=>simp
 have e2:∃y,(EU=none∧l=0)∨(EU=some y∧∃q,y=.int q l):=by
  rcases ET hl with⟨rfl,rfl⟩|⟨q,rfl⟩
  ·simp_all
  ·obtain⟨y,rfl,hy⟩:=rl _ rfl;cases hy with
   |pv hy=>cases hy with
    |int hw=>simp
 clear rl rl0 rh rh0 hl hh;obtain⟨y,⟨rfl,rfl⟩|⟨rfl,q,rfl⟩⟩:=e1<;>obtain⟨z,⟨rfl,rfl⟩|⟨rfl,q',rfl⟩⟩:=e2
 ·rfl
 ·simp_all[run_sliceBound,Instr.sliceBounds]
 ·have:= @run_sliceBound P w q h cap (if isS then BoundsCode.sliceAcap else .sliceAlen) (by omega) (by omega);simp[Instr.sliceBounds,this]
 ·have h1:= @run_sliceBound P w q h cap (if isS then BoundsCode.sliceAcap else .sliceAlen) (by omega) (by omega);have h2:= @run_sliceBound P w q' l h.toNat BoundsCode.sliceB b0 (by omega);simp[Instr.sliceBounds,h1,h2]
theorem str_slice{s:Bytes}{l h:Nat}(hl:l≤h)(hh:h≤s.length):(⟨s.toArray⟩:ByteArray).extract l h=⟨((s.take h).drop l).toArray⟩:=by apply ByteArray.ext;simp[ByteArray.data_extract,alG,List.extract_eq_take_drop,List.drop_take]
theorem UZ{x:Value}{l h:Nat}(hx:ah P μ (.rs sz es) x)(hl:l≤h)(hh:h≤es.length):∃a cap,x=.slice a es.length cap∧es.length≤cap∧ah P μ (.rs sz ((es.take h).drop l)) (.slice (if cap=l then a else a.map (·.add (l*sz))) (h-l) (cap-l)):=by
 have hlen:((es.take h).drop l).length=h-l:=by simp;omega
 cases hx with
 |lG=>
  simp at hh;subst hh;have:l=0:=by omega
  subst this;exact⟨none,0,rfl,by simp,by simpa using ah.lG⟩
 | @G2 _ cap a hc=>
  simp at hh;subst hh;have:l=0:=by omega
  subst this;refine⟨some a,cap,rfl,by simp,?_⟩;have:(if cap=0 then some a else(some a).map (·.add (0*sz)))=some a:=by split<;>simp[Addr.add]
  rw[this];exact .G2 hc
 | @rs _ _ b o cap X h1 h2 h3 h4 h5 h6=>
  refine⟨_,cap,rfl,h1,?_⟩;have fe:∀(i:Nat)e,((es.take h).drop l)[i]?=some e→es[l+i]?=some e:=fun i e hi=>(iD (uN hi)).2;by_cases hz:h=l
  ·have:(es.take h).drop l=[]:=akg (by omega);rw[this];have hz':h-l=0:=by omega
   rw[hz'];split
   ·exact .G2 (by omega)
   ·simp only[akb];exact .G2 (by omega)
  ·have hc:cap≠l:=by omega
   rw[IS hc];simp only[akb,Addr.add_mid];have:=ah.rs (P:=P) (μ:=μ) (sz:=sz) (es:=(es.take h).drop l) (b:=b) (o:=o+l*sz) (cap:=cap-l) (fun i j=>X (l+i) j) (by omega) (by omega) (fun i e hi=>h3 _ e (fe i e hi)) (fun i e j p hi hj=>by grind) (fun i e j p hi hj=>h5 _ e j p (fe i e hi) hj) (fun i e j p hi hj=>h6 _ e j p (fe i e hi) hj);simp_all
theorem vB{e:TypeId}{a:Option Addr}{len cap l h:Nat}(hu:P.underlying t=some (.slice e))(hz:aN P e≠0)(hb:(Instr.sliceBounds true len cap EU qV none).run P w=.ok (l,h,cap) w):(Instr.sliceAt t (.slice a len cap) EU qV none).run P w=.ok (.slice (if cap=l then a else a.map (·.add (l*aN P e))) (h-l) (cap-l)) w:=by simp_all[Instr.sliceAt,Instr.slice,run_underlying,jH]
theorem Sk{lo hi mx:Option V}{k:V→bq→Option R}(h:vt E t x lo hi mx m k=some r):∃v ft,(∀m2:Mem,(∀x∈ft,m2 x.2=m x.2)→∀(R':Type)(k':V→bq→Option R'),vt E t x lo hi mx m2 k'=k' v ft)∧k v ft=some r∧(∀x∈ft,x.1=false)∧(∀id,v.has id=true→x.has id=true)∧∀(G:Nat→Option (List PV))(w0:bA)(μ:Ro)(φ:Nat→aA)(w:World)(y:Value)(EU qV mx':Option Value),av E.P G w0 μ φ m w→af E.P μ φ x y→(∀v,lo=some v→∃y,EU=some y∧af E.P μ φ v y)→(lo=none→EU=none)→(∀v,hi=some v→∃y,qV=some y∧af E.P μ φ v y)→(hi=none→qV=none)→(∀v,mx=some v→∃y,mx'=some y∧af E.P μ φ v y)→(mx=none→mx'=none)→∃z,(Instr.sliceAt t y EU qV mx').run E.P w=.ok z w∧af E.P μ φ v z:=by
 unfold vt at h;split at h
 ·rename_i mv;split at h
  ·rename_i e id hu;split at h
   ·rename_i s et es hm;split at h
    ·rename_i qh hh qc c;split at h
     ·rename_i hb;refine⟨_,_,fun m2 cL R' k'=>by have:=cL (false,id) (by simp);simp_all[vt,AI],h,by simp,by simp[V.has],fun G w0 μ φ w y EU qV mx' hM hy r1 r2 r3 r4 r5 r6=>?_⟩;have hA:=hM.arr (.inl hm);have hle:=hA.pN;obtain⟨a1,a2,a3,a4,a5,a6,a7⟩:=hA;obtain⟨ym,rfl,hym⟩:=r5 _ rfl;have hlo:=r2 rfl;subst hlo;cases hym with
      |pv hym=>cases hym with
       |int hwc=>
        have hB:∀len cap:Nat,len=es.length→c≤(cap:Int)→(Instr.sliceBounds true len cap none qV (some (.int qc c))).run E.P w=.ok (0,hh.toNat,c.toNat) w:=by
         intro len cap hlen qW;have h1:= @run_sliceBound E.P w qc c cap BoundsCode.slice3Acap (by omega) qW;obtain⟨yh,rfl,hyh⟩:=r3 _ rfl;cases hyh with
         |pv hyh=>cases hyh with
          |int hwh=>have h2:= @run_sliceBound E.P w qh hh c.toNat BoundsCode.slice3B (by omega) (by omega);simp[Instr.sliceBounds,h1,h2]
        have hS:∀(a:Option Addr)(len cap:Nat),len=es.length→c≤(cap:Int)→(Instr.sliceAt t (.slice a len cap) none qV (some (.int qc c))).run E.P w=.ok (.slice (if c.toNat=0 then a else a.map (·.add (0*aN E.P e))) hh.toNat c.toNat) w:=by intro a len cap hlen qW;simp[Instr.sliceAt,Instr.slice,run_underlying hu,hB len cap hlen qW,jH (show aN E.P e≠0 by omega)]
        cases hy with
        |tp hg=>
         rw[hg]at a7;have h0:es.length=0:=by omega
         refine⟨_,hS none 0 0 h0.symm (by omega),?_⟩;have e1:hh.toNat=0:=by omega
         have e2:c.toNat=0:=by omega
         rw[e1,e2];exact .rY hg
        | @os _ g hg=>
         refine⟨_,hS _ _ _ a1 (by omega),?_⟩;have:(if c.toNat=0 then some (⟨g,0,none⟩:Addr)else(some ⟨g,0,none⟩:Option Addr).map (·.add (0*aN E.P e)))=some ⟨g,0*(φ id).sz,none⟩:=by split<;>simp[Addr.add]
         rw[this];exact .fR hg (by omega) (.inl rfl) (by omega) (by omega)
     ·cases h
    ·cases h
   ·cases h
  ·cases h
 ·split at h
  ·rename_i s hu;split at h
   ·rename_i l hh hl Zl;split at h
    ·rename_i hb;refine⟨_,_,fun m2 _ R' k'=>by simp_all[vt,AI],h,by simp,by simp,fun G w0 μ φ w y EU qV mx' hM hy r1 r2 r3 r4 _ r6=>?_⟩;have hmx:=r6 rfl;subst hmx;cases hy with
     |pv hy=>cases hy with
      |str hlen=>have hB:=mf (P:=E.P) (w:=w) (isS:=false) (cap:=s.length) hl Zl r1 r2 r3 r4 hb.1 hb.2.1 hb.2.2 (akk _);refine⟨_,?_,.pv (.str (s:=(s.take hh.toNat).drop l.toNat) (by simp;omega))⟩;simp only[Instr.sliceAt,Instr.slice,Sem.run_bind,run_underlying hu,Result.andThen_ok,ER,hB];simp only[amw,cQ,abp,Sem.run_bind,Sem.run_pure,Result.andThen_ok,hB];rw[str_slice (by omega) (by omega)]
    ·cases h
   ·cases h
  ·rename_i e sz es hu;split at h
   ·rename_i l hh hl Zl;split at h
    ·rename_i hb;refine⟨_,_,fun m2 _ R' k'=>by simp_all[vt,AI],h,by simp,by simp,fun G w0 μ φ w y EU qV mx' hM hy r1 r2 r3 r4 _ r6=>?_⟩;have hmx:=r6 rfl;subst hmx;cases hy with
     |pv hy=>obtain⟨a,cap,rfl,hc,hr⟩:=UZ (l:=l.toNat) (h:=hh.toNat) hy (by omega) (by omega);have hB:=mf (P:=E.P) (w:=w) (isS:=true) (cap:=cap) hl Zl r1 r2 r3 r4 hb.1 hb.2.1 hb.2.2.1 hc;exact⟨_,vB hu hb.2.2.2.2 hB,by rw[←hb.2.2.2.1];exact .pv hr⟩
    ·cases h
   ·cases h
  ·rename_i e id hu;have key:∀(s:Nat)(et:TypeId)(es:List PV)(l hh:Int),(m id=some (.arr s et es)∨m id=some (.rD s et es))→jQ 0 lo=some l→jQ es.length hi=some hh→(0≤l∧l≤hh∧hh≤(es.length:Int)∧s=aN E.P e)→∀(G:Nat→Option (List PV))(w0:bA)(μ:Ro)(φ:Nat→aA)(w:World)(y:Value)(EU qV:Option Value),av E.P G w0 μ φ m w→af E.P μ φ (.os id) y→(∀v,lo=some v→∃y,EU=some y∧af E.P μ φ v y)→(lo=none→EU=none)→(∀v,hi=some v→∃y,qV=some y∧af E.P μ φ v y)→(hi=none→qV=none)→∃z,(Instr.sliceAt t y EU qV none).run E.P w=.ok z w∧af E.P μ φ (.fR id l.toNat (hh.toNat-l.toNat)) z:=by
    intro s et es l hh hm hl Zl hb G w0 μ φ w y EU qV hM hy r1 r2 r3 r4;have hA:=hM.arr hm;have hle:=hA.pN;obtain⟨a1,a2,a3,a4,a5,a6,a7⟩:=hA;cases hy with
    |tp hg=>
     rw[hg]at a7;have h0:es.length=0:=by omega
     have hB:=mf (P:=E.P) (w:=w) (isS:=true) (cap:=0) hl Zl r1 r2 r3 r4 hb.1 hb.2.1 hb.2.2.1 (by omega);rw[h0]at hB;refine⟨_,vB hu (by omega) hB,?_⟩;have e1:l.toNat=0:=by omega
     have e2:hh.toNat=0:=by omega
     rw[e1,e2];exact .rY hg
    | @os _ g hg=>
     have hB:=mf (P:=E.P) (w:=w) (isS:=true) (cap:=(φ id).cap) hl Zl r1 r2 r3 r4 hb.1 hb.2.1 hb.2.2.1 (by omega);rw[←a1]at hB;refine⟨_,vB hu (by omega) hB,?_⟩;by_cases hc:(φ id).cap=l.toNat
     ·rw[AI hc];by_cases h0:l.toNat=0
      ·rw[h0];exact .fR hg (by omega) (.inl (by simp)) (by omega) (by omega)
      ·exact .fR hg (by omega) (.inr ⟨hc,by omega⟩) (by omega) (by omega)
     ·rw[IS hc];simp only[akb,Addr.add_mid,akV];refine .fR hg (by omega) (.inl ?_) (by omega) (by omega);rw[a2,hb.2.2.2]
   split at h
   ·rename_i s et es hm;split at h
    ·rename_i l hh hl Zl;split at h
     ·rename_i hb;exact⟨_,_,fun m2 cL R' k'=>by have:=cL (false,id) (by simp);simp_all[vt,AI],h,by simp,by simp[V.has],fun G w0 μ φ w y EU qV mx' hM hy r1 r2 r3 r4 _ r6=>by rw[r6 rfl];exact key s et es l hh (.inl hm) hl Zl hb G w0 μ φ w y EU qV hM hy r1 r2 r3 r4⟩
     ·cases h
    ·cases h
   ·rename_i s et es hm;split at h
    ·rename_i l hh hl Zl;split at h
     ·rename_i hb;exact⟨_,_,fun m2 cL R' k'=>by have:=cL (false,id) (by simp);simp_all[vt,AI],h,by simp,by simp[V.has],fun G w0 μ φ w y EU qV mx' hM hy r1 r2 r3 r4 _ r6=>by rw[r6 rfl];exact key s et es l hh (.inr hm) hl Zl hb G w0 μ φ w y EU qV hM hy r1 r2 r3 r4⟩
     ·cases h
    ·cases h
   ·cases h
  ·cases h
end
end Go.Ab
