import Derived.Test.YtcmhmlnkhmefbaaGreatAbEval
import Derived.Below
import Derived.Laws.CopyRow
import Derived.Deep.MidRow
set_option linter.unusedVariables false
namespace Go.Ab
open Go.RowKit (Below)
abbrev Ro:=Nat→Option Obj
def TZ:Bool:=true
structure jw(B:Nat)(w w':World):Prop extends Below B w w' where
 drawn:TZ=true→w.drawn≤w'.drawn
namespace jw
theorem refl(B:Nat)(w:World):jw B w w:=⟨Below.refl B w,fun _=>Nat.le_refl _⟩
theorem trans{B:Nat}{a b c:World}(h:jw B a b)(k:jw B b c):jw B a c:=⟨h.toBelow.trans k.toBelow,fun u=>Nat.le_trans (h.drawn u) (k.drawn u)⟩
theorem mono{B B':Nat}{w w':World}(h:jw B w w')(hB:B'≤B):jw B' w w':=⟨h.toBelow.mono hB,h.drawn⟩
theorem drew{B:Nat}{a w:World}(h:jw B a w):jw B a w.drew:=⟨h.toBelow.drew,fun u=>Nat.le_succ_of_le (h.drawn u)⟩
theorem heap_alloc(w:World)(o:Obj)(k:Nat)(h:k<w.heap.size):(w.alloc o).heap[k]?=w.heap[k]?:=Below.heap_alloc w o k h
theorem alloc{B:Nat}{a w:World}(h:jw B a w)(hB:B≤w.heap.size)(o:Obj):jw B a (w.alloc o):=⟨h.toBelow.alloc hB o,h.drawn⟩
end jw
def Y1.code:Y1→Code
 |.ret=>.ret
 |.exit id=>.exit id
def IA.obj(rc:Loop):IA→Loop
 |.ready=>{rc with state:=.ready,pending:=none}
 |.busy=>{rc with state:=.busy,pending:=none}
 |.done j=>{rc with state:=.done,pending:=some j.code}
def cellAt(μ:Ro)(b o:Nat):Option Value:=match μ b with|some (.cells c _ _)=>c[o]?|_=>none
inductive aj(P:Program)(μ:Ro):PV→Value→Prop
 |int {k:IntKind} {n:Int}:(Lit.int k n).wf=true→aj P μ (.int k n) (.int k n)
 |bool {b:Bool}:aj P μ (.bool b) (.bool b)
 |str {s:Bytes}:s.length≤maxLen→aj P μ (.str s) (.string ⟨s.toArray⟩)
 |agg {cs:List PV} {xs:Array Value}:cs.length=xs.size→(∀(i:Nat)p x,cs[i]?=some p→xs[i]?=some x→aj P μ p x)→(∀(i:Nat)(x:Value),xs[i]?=some x→x.oneCell'=true)→aj P μ (.agg cs) (.agg xs)
 |bm {cs:List PV} {xs:Array Value}:cs.length=xs.size→(∀(i:Nat)p x,cs[i]?=some p→xs[i]?=some x→aj P μ p x)→aj P μ (.bm cs) (.tuple xs)
 |ny:aj P μ .ny (.pointer none)
 |rp {cs:List PV} {b o:Nat} (X:Nat→Value):(∀(i:Nat)p,cs[i]?=some p→cellAt μ b (o+i)=some (X i))→(∀(i:Nat)p,cs[i]?=some p→aj P μ p (X i))→(∀i:Nat,i<cs.length→(X i).oneCell'=true)→aj P μ (.rp cs) (.pointer (some ⟨b,o,none⟩))
 |jl {sz:Nat}:aj P μ (.rs sz []) (.slice none 0 0)
 |FX {sz cap:Nat} {a:Addr}:cap≤maxLen→aj P μ (.rs sz []) (.slice (some a) 0 cap)
 |rs {sz:Nat} {es:List PV} {b o cap:Nat} (X:Nat→Nat→Value):es.length≤cap→cap≤maxLen→(∀(i:Nat)e,es[i]?=some e→e.cells.length=sz)→(∀(i:Nat)e(j:Nat)p,es[i]?=some e→e.cells[j]?=some p→cellAt μ b (o+i*sz+j)=some (X i j))→(∀(i:Nat)e(j:Nat)p,es[i]?=some e→e.cells[j]?=some p→aj P μ p (X i j))→(∀(i:Nat)e(j:Nat)p,es[i]?=some e→e.cells[j]?=some p→(X i j).oneCell'=true)→aj P μ (.rs sz es) (.slice (some ⟨b,o,none⟩) es.length cap)
 |sN:aj P μ .sN (.map none)
 |rm {kt:TypeId} {ks vs:List PV} {b clock:Nat} {en:Array MapEntry} {kk:List Kd}:μ b=some (.map en clock)→en.size=ks.length→vs.length=ks.length→pL P kt=some kk→(∀(i:Nat)k,ks[i]?=some k→sB P kt kk k=true)→(∀(i:Nat)k e,ks[i]?=some k→en[i]?=some e→aj P μ k e.key)→(∀(i:Nat)v e,vs[i]?=some v→en[i]?=some e→aj P μ v e.val)→aj P μ (.rm kt ks vs) (.map (some b))
 |xL:aj P μ .xL .nilFunc
 |fn {f:FuncId} {cs:List PV} {xs:Array Value}:cs.length=xs.size→(∀(i:Nat)p x,cs[i]?=some p→xs[i]?=some x→aj P μ p x)→aj P μ (.fn f cs) (.func (.func f) #[] xs)
 |Qu:aj P μ (.Tu false) .nilIface
 |T3 {t:TypeId} {x:Value}:aj P μ (.Tu true) (.iface t x)
 |bad {x:Value}:aj P μ .bad x
structure vl(P:Program)(μ:Ro)(g:Nat)(cs:List PV):Prop where
 rep:aj P μ (.rp cs) (.pointer (some ⟨g,0,none⟩))
 size:∃c T z,μ g=some (.cells c T z)∧c.size=cs.length
structure y9 where
 g:Option Nat
 cap:Nat
 len:Nat
 sz:Nat
 deriving Inhabited
structure aF extends y9 where
 row:Nat→Nat→y9:=fun _ _=>default
 deriving Inhabited
abbrev CE(g:Option Nat)(cap len sz:Nat):aF:={g,cap,len,sz}
def y9.up(p:y9):aF:={toy9:=p}
inductive ai(P:Program)(μ:Ro)(φ:Nat→aF):V→Value→Prop
 |pv {p:PV} {x:Value}:aj P μ p x→ai P μ φ (.pv p) x
 |bj:ai P μ φ .bj (.slice none 0 0)
 |op {id off g:Nat}:(φ id).g=some g→ai P μ φ (.op id off) (.pointer (some ⟨g,off,none⟩))
 |oe {id i off g:Nat}:(φ id).g=some g→ai P μ φ (.oe id i off) (.pointer (some ⟨g,i*(φ id).sz+off,none⟩))
 |pA {id:Nat}:(φ id).g=none→ai P μ φ (.os id) (.slice none 0 0)
 |os {id g:Nat}:(φ id).g=some g→ai P μ φ (.os id) (.slice (some ⟨g,0,none⟩) (φ id).len (φ id).cap)
 |oh {id:Nat}:(φ id).g=none→ai P μ φ (.fg id 0 0) (.slice none 0 0)
 |fg {id lo len cap g:Nat} {a:Addr}:(φ id).g=some g→lo+len≤(φ id).len→(a=⟨g,lo*(φ id).sz,none⟩∨((φ id).cap=lo∧0<lo))→len≤cap→lo+cap≤(φ id).cap→ai P μ φ (.fg id lo len) (.slice (some a) len cap)
 |Er {id i off:Nat}:((φ id).row i off).g=none→ai P μ φ (.sY id i off) (.slice none 0 0)
 |sY {id i off g:Nat}:((φ id).row i off).g=some g→ai P μ φ (.sY id i off) (.slice (some ⟨g,0,none⟩) ((φ id).row i off).len ((φ id).row i off).cap)
 |wC {id i off s j off2 g:Nat}:((φ id).row i off).g=some g→((φ id).row i off).sz=s→ai P μ φ (.wC id i off s j off2) (.pointer (some ⟨g,j*s+off2,none⟩))
 |om {id g:Nat}:(φ id).g=some g→ai P μ φ (.om id) (.map (some g))
 |yl {id g:Nat}:(φ id).g=some g→ai P μ φ (.yl id) (.func (.yield g) #[] #[])
 |it {id g:Nat}:(φ id).g=some g→ai P μ φ (.it id) (.pointer (some ⟨g,0,none⟩))
 |fn {f:FuncId} {cs:List V} {xs:Array Value}:cs.length=xs.size→(∀(i:Nat)p x,cs[i]?=some p→xs[i]?=some x→ai P μ φ p x)→ai P μ φ (.fn f cs) (.func (.func f) #[] xs)
 |agg {cs:List V} {xs:Array Value}:cs.length=xs.size→(∀(i:Nat)p x,cs[i]?=some p→xs[i]?=some x→ai P μ φ p x)→(∀(i:Nat)(x:Value),xs[i]?=some x→x.oneCell'=true)→ai P μ φ (.agg cs) (.agg xs)
 |bm {cs:List V} {xs:Array Value}:cs.length=xs.size→(∀(i:Nat)p x,cs[i]?=some p→xs[i]?=some x→ai P μ φ p x)→ai P μ φ (.bm cs) (.tuple xs)
 |top {x:Value}:ai P μ φ .top x
def aL(P:Program)(μ:Ro)(φ:Nat→aF)(w:World)(id sz:Nat)(et:TypeId)(es:List PV):Prop:=
 (φ id).len=es.length∧(φ id).sz=sz∧sz=aS P et∧0<sz∧(∀(i:Nat)e,es[i]?=some e→e.cells.length=sz)∧(φ id).cap≤maxLen∧
 match(φ id).g with
 |none=>es=[]∧(φ id).cap=0
 |some g=>∃c:Array Value,w.heap[g]?=some (.cells c et (0,0))∧(φ id).cap*sz≤c.size∧es.length≤(φ id).cap∧(∀(i:Nat)e(j:Nat)p x,es[i]?=some e→e.cells[j]?=some p→c[i*sz+j]?=some x→aj P μ p x)∧(∀(i:Nat)(x:Value),i<es.length*sz→c[i]?=some x→x.oneCell'=true)
def bJ.rowAt:bJ→Nat→Nat→Bool
 |.nest _ _ es,i,off=>match es[i]? with
  |some e=>match e.cells[off]? with
   |some p=>p.isRow
   |none=>false
  |none=>false
 |.eU _ _ es,i,0=>match es[i]? with
  |some x=>x.2.isRow
  |none=>false
 |_,_,_=>false
def eK(P:Program)(μ:Ro)(R:y9)(w:World)(s:Nat)(rs:List PV)(x:Value):Prop:=(∃et,aL P μ (fun _=>R.up) w 0 s et rs)∧ai P μ (fun _=>R.up) (.os 0) x
def eg(P:Program)(μ:Ro)(R:y9)(w:World)(p:PV)(x:Value):Prop:=match p with
 |.fP s rs=>eK P μ R w s rs x
 |p=>aj P μ p x
def aV(P:Program)(μ:Ro)(φ:Nat→aF)(w:World)(id sz:Nat)(et:TypeId)(es:List PV):Prop:=
 (φ id).len=es.length∧(φ id).sz=sz∧sz=aS P et∧0<sz∧(∀(i:Nat)e,es[i]?=some e→e.cells.length=sz)∧(φ id).cap≤maxLen∧
 match(φ id).g with
 |none=>es=[]∧(φ id).cap=0
 |some g=>∃c:Array Value,w.heap[g]?=some (.cells c et (0,0))∧(φ id).cap*sz≤c.size∧es.length≤(φ id).cap∧(∀(i:Nat)e(j:Nat)p x,es[i]?=some e→e.cells[j]?=some p→c[i*sz+j]?=some x→eg P μ ((φ id).row i j) w p x)∧(∀(i:Nat)(x:Value),i<es.length*sz→c[i]?=some x→x.oneCell'=true)
def jU(en:Array MapEntry)(clock:Nat):Prop:=∀(i:Nat)e,en[i]?=some e→e.born<clock∧∀(j:Nat)e',en[j]?=some e'→e'.born=e.born→j=i
def jx(en:Array MapEntry)(seen:Array Nat):List MapEntry:=en.toList.filter fun e=> !seen.contains e.born
def fR(P:Program)(μ:Ro)(φ:Nat→aF)(w:World)(id:Nat):bJ→Prop
 |.box cs=>∃(g:Nat)(c:Array Value)(T:TypeId),(φ id).g=some g∧w.heap[g]?=some (.cells c T (0,0))∧c.size=cs.length∧(∀(i:Nat)v x,cs[i]?=some v→c[i]?=some x→ai P μ φ v x)∧(∀(i:Nat)(x:Value),c[i]?=some x→x.oneCell'=true)∧(φ id).len=cs.length
 |.arr sz et es=>aL P μ φ w id sz et es
 |.nM sz et es=>aL P μ φ w id sz et es∧∀g,(φ id).g=some g→(μ g).isSome
 |.map kt es=>∃(g:Nat)(en:Array MapEntry)(clock:Nat)(kk:List Kd),(φ id).g=some g∧w.heap[g]?=some (.map en clock)∧en.size=es.length∧pL P kt=some kk∧(∀(i:Nat)k v,es[i]?=some (k,v)→sB P kt kk k=true)∧jU en clock∧(∀(i:Nat)k v e,es[i]?=some (k,v)→en[i]?=some e→aj P μ k e.key∧aj P μ v e.val)
 |.nest sz et es=>aV P μ φ w id sz et es
 |.eU kt e0 es=>∃(g:Nat)(en:Array MapEntry)(clock:Nat)(kk:List Kd),(φ id).g=some g∧w.heap[g]?=some (.map en clock)∧en.size=es.length∧pL P kt=some kk∧(∀(i:Nat)k v,es[i]?=some (k,v)→sB P kt kk k=true)∧jU en clock∧(∀(i:Nat)k v e,es[i]?=some (k,v)→en[i]?=some e→aj P μ k e.key∧(match v with
  |.fP s rs=>aL P μ (fun _=>((φ id).row i 0).up) w 0 s e0 rs∧ai P μ (fun _=>((φ id).row i 0).up) (.os 0) e.val
  |v=>aj P μ v e.val))
 |.iter t es cur=>∃(g mg:Nat)(en:Array MapEntry)(clock:Nat)(seen:Array Nat),(φ id).g=some g∧w.heap[g]?=some (.mapIter (some mg) clock seen clock)∧μ mg=some (.map en clock)∧jU en clock∧(jx en seen).length=es.length∧(∀(i:Nat)k v e,es[i]?=some (k,v)→(jx en seen)[i]?=some e→aj P μ k e.key∧aj P μ v e.val)∧∀k v,cur=some (k,v)→∃(i:Nat)(e:MapEntry),en[i]?=some e∧seen.back? =some e.born∧aj P μ k e.key∧aj P μ v e.val
 |.loop st=>∃(g:Nat)(rc:Loop),(φ id).g=some g∧w.heap[g]?=some (.loop (st.obj rc))
def bJ.ir:bJ→Bool
 |.nM .. =>false
 |_=>true
structure bx where
 w:World
 mu:Ro
 sv:Nat→Value
 dC:Ro:=fun _=>none
 kF:Ro:=fun _=>none
 rc:Nat→Option (Nat×Loop):=fun _=>none
abbrev bx.heap(B:bx):Array Obj:=B.w.heap
def bJ.owns(b:bJ)(p:aF)(g:Nat):Prop:=p.g=some g∨∃i off,b.rowAt i off=true∧(p.row i off).g=some g
def bJ.apart(b:bJ)(p:aF):Prop:=∀i off g,b.rowAt i off=true→(p.row i off).g=some g→p.g≠some g∧∀i' qi,b.rowAt i' qi=true→(p.row i' qi).g=some g→i'=i∧qi=off
structure ax(P:Program)(G:Nat→Option (List PV))(w0:bx)(μ:Ro)(φ:Nat→aF)(m:Mem)(w:World):Prop where
 below:jw w0.heap.size w0.w w
 ro:∀b o,μ b=some o→w.heap[b]?=some o
 aH:∀g cs,G g=some cs→vl P μ g cs
 dI:∀id b,m id=some b→fR P μ φ w id b
 own:∀id b g,m id=some b→b.owns (φ id) g→w0.heap.size≤g∧(b.ir=true→μ g=none)
 inj:∀PX id2 b1 b2 g,m PX=some b1→m id2=some b2→b1.owns (φ PX) g→b2.owns (φ id2) g→PX=id2
 apart:∀id b,m id=some b→b.apart (φ id)
 fi:∀j cs id,m j=some (.box cs)→cq id cs=true→(m id).isSome=true
 base:∀b o,μ b=some o→b<w0.heap.size→w0.mu b=some o
 dC:∀b o,w0.dC b=some o→μ b=some o
 y8:∀id st,m id=some (.loop st)→∃g rc,(φ id).g=some g∧w0.rc id=some (g,rc)∧w.heap[g]?=some (.loop (st.obj rc))
def az(nt:Nat)(w0:bx)(a:Act):Nat→Value:=fun t=>if t<nt then a.tmps.getD t undef else w0.sv t
theorem og{nt:Nat}{w0:bx}{a:Act}{t:Nat}(h:t<nt):az nt w0 a t=a.tmps.getD t undef:=if_pos h
def Marks(B:Nat)(kF μ:Ro)(ds:List Deferred):Prop:=∃Ds:List Nat,ds=Ds.map (fun D=>{target:=.collected D,args:= #[]})∧Ds.Nodup∧∀D∈Ds,B≤D∧kF D=none∧μ D=some (.deferred (some []))
theorem Marks.nil(B:Nat)(kF μ:Ro):Marks B kF μ []:=⟨[],rfl,.nil,by simp⟩
theorem Marks.mono{B:Nat}{kF μ μ':Ro}(h:∀b o,μ b=some o→μ' b=some o){ds:List Deferred}:Marks B kF μ ds→Marks B kF μ' ds
 |⟨Ds,e,hn,hD⟩=>⟨Ds,e,hn,fun D hd=>⟨(hD D hd).1,(hD D hd).2.1,h _ _ (hD D hd).2.2⟩⟩
structure Rel(P:Program)(G:Nat→Option (List PV))(nt:Nat)(w0:bx)(μ:Ro)(φ:Nat→aF)(f:Fr)(m:Mem)(a:Act)(w:World):Prop extends ax P G w0 μ φ m w where
 size:a.tmps.size=nt
 defers:Marks w0.heap.size w0.kF μ a.defers
 kF:∀b o,w0.kF b=some o→w0.dC b=some o
 fr:∀t,ai P μ φ (f t) (az nt w0 a t)
 live:∀t id,(f t).has id=true→(m id).isSome=true
section
variable {P:Program} {μ μ':Ro} {φ φ':Nat→aF}
variable{x:Value}
theorem za(h:∀b o,μ b=some o→μ' b=some o){b o:Nat}(hx:cellAt μ b o=some x):cellAt μ' b o=some x:=by
 unfold cellAt at*;split at hx
 ·rename_i c t fz hb;rw[h _ _ hb];exact hx
 ·cases hx
variable{p:PV}
theorem aj.mono(h:∀b o,μ b=some o→μ' b=some o)(hp:aj P μ p x):aj P μ' p x:=by
 induction hp with
 |int h=>exact .int h
 |bool=>exact .bool
 |str h=>exact .str h
 |agg h1 _ h3 ih=>exact .agg h1 ih h3
 |bm h1 _ ih=>exact .bm h1 ih
 |ny=>exact .ny
 |rp X h1 _ h3 ih=>exact .rp X (fun i p hi=>za h (h1 i p hi)) ih h3
 |jl=>exact .jl
 |FX h=>exact .FX h
 |rs X h1 h2 h3 h4 _ h6 ih=>exact .rs X h1 h2 h3 (fun i e j p hi hj=>za h (h4 i e j p hi hj)) ih h6
 |sN=>exact .sN
 |rm h1 h2 h3 h4 h5 _ _ ih1 ih2=>exact .rm (h _ _ h1) h2 h3 h4 h5 ih1 ih2
 |xL=>exact .xL
 |fn h1 _ ih=>exact .fn h1 ih
 |Qu=>exact .Qu
 |T3=>exact .T3
 |bad=>exact .bad
theorem vl.mono(h:∀b o,μ b=some o→μ' b=some o){g:Nat}{cs:List PV}(hv:vl P μ g cs):vl P μ' g cs:=⟨hv.rep.mono h,let⟨c,T,z,h1,h2⟩:=hv.size;⟨c,T,z,h _ _ h1,h2⟩⟩
theorem bL{id:Nat}{v:V}:∀{cs:List V},v∈cs→v.has id=true→cq id cs=true
 |c::r,hm,hv=>by
  rcases List.mem_cons.1 hm with rfl|hm
  ·simp[cq,hv]
  ·simp[cq,bL hm hv]
theorem cT{id:Nat}:∀{cs:List V},cq id cs=true↔∃v∈cs,v.has id=true
 |[]=>by simp[cq]
 |c::r=>by simp[cq,cT (cs:=r)]
theorem uE{id:Nat}{v:V}:∀{cs:List V},v∈cs→v.sP id=true→wE id cs=true
 |c::r,hm,hv=>by
  rcases List.mem_cons.1 hm with rfl|hm
  ·simp[wE,hv]
  ·simp[wE,uE hm hv]
theorem ai.mono(h:∀b o,μ b=some o→μ' b=some o){v:V}{x:Value}(hv:ai P μ φ v x)(hφ:∀id,v.has id=true→φ' id=φ id):ai P μ' φ' v x:=by
 induction hv with
 |pv hp=>exact .pv (hp.mono h)
 |bj=>exact .bj
 |op hg=>exact .op (by rw[hφ _ (by simp[V.has])];exact hg)
 | @oe id i off g hg=>have e:=hφ id (by simp[V.has]);have:=ai.oe (P:=P) (μ:=μ') (φ:=φ') (id:=id) (i:=i) (off:=off) (g:=g) (by rw[e];exact hg);rw[e]at this;exact this
 | @pA id hg=>exact .pA (by rw[hφ id (by simp[V.has])];exact hg)
 | @os id g hg=>have e:=hφ id (by simp[V.has]);have:=ai.os (P:=P) (μ:=μ') (φ:=φ') (id:=id) (g:=g) (by rw[e];exact hg);rw[e]at this;exact this
 | @oh id hg=>exact .oh (by rw[hφ id (by simp[V.has])];exact hg)
 | @fg id lo len cap g a hg hl ha hc PU=>have e:=hφ id (by simp[V.has]);exact ai.fg (P:=P) (μ:=μ') (φ:=φ') (id:=id) (lo:=lo) (len:=len) (cap:=cap) (g:=g) (a:=a) (by rw[e];exact hg) (by rw[e];exact hl) (by rw[e];exact ha) hc (by rw[e];exact PU)
 | @Er id i off hg=>exact .Er (by rw[hφ id (by simp[V.has])];exact hg)
 | @sY id i off g hg=>have e:=hφ id (by simp[V.has]);have:=ai.sY (P:=P) (μ:=μ') (φ:=φ') (id:=id) (i:=i) (off:=off) (g:=g) (by rw[e];exact hg);rw[e]at this;exact this
 | @wC id i off s j off2 g hg hs=>have e:=hφ id (by simp[V.has]);exact .wC (by rw[e];exact hg) (by rw[e];exact hs)
 | @om id g hg=>exact .om (by rw[hφ id (by simp[V.has])];exact hg)
 | @yl id g hg=>exact .yl (by rw[hφ id (by simp[V.has])];exact hg)
 | @it id g hg=>exact .it (by rw[hφ id (by simp[V.has])];exact hg)
 |fn h1 _ ih=>exact .fn h1 (fun i p x hi hx=>ih i p x hi hx (fun id hid=>hφ id (by simp only[V.has];exact bL (List.mem_of_getElem? hi) hid)))
 |agg h1 _ h3 ih=>exact .agg h1 (fun i p x hi hx=>ih i p x hi hx (fun id hid=>hφ id (by simp only[V.has];exact bL (List.mem_of_getElem? hi) hid))) h3
 |bm h1 _ ih=>exact .bm h1 (fun i p x hi hx=>ih i p x hi hx (fun id hid=>hφ id (by simp only[V.has];exact bL (List.mem_of_getElem? hi) hid)))
 |top=>exact .top
variable{v:V}
theorem ai.VH(h:∀b o,μ b=some o→μ' b=some o)(hv:ai P μ φ v x)(hφ:∀id,v.has id=true→(φ' id).toy9=(φ id).toy9∧(v.sP id=true→φ' id=φ id)):ai P μ' φ' v x:=by
 induction hv with
 |pv hp=>exact .pv (hp.mono h)
 |bj=>exact .bj
 |op hg=>exact .op (by rw[(hφ _ (by simp[V.has])).1];exact hg)
 | @oe id i off g hg=>have e:=(hφ id (by simp[V.has])).1;have:=ai.oe (P:=P) (μ:=μ') (φ:=φ') (id:=id) (i:=i) (off:=off) (g:=g) (by rw[e];exact hg);rw[e]at this;exact this
 | @pA id hg=>exact .pA (by rw[(hφ id (by simp[V.has])).1];exact hg)
 | @os id g hg=>have e:=(hφ id (by simp[V.has])).1;have:=ai.os (P:=P) (μ:=μ') (φ:=φ') (id:=id) (g:=g) (by rw[e];exact hg);rw[e]at this;exact this
 | @oh id hg=>exact .oh (by rw[(hφ id (by simp[V.has])).1];exact hg)
 | @fg id lo len cap g a hg hl ha hc PU=>have e:=(hφ id (by simp[V.has])).1;exact ai.fg (P:=P) (μ:=μ') (φ:=φ') (id:=id) (lo:=lo) (len:=len) (cap:=cap) (g:=g) (a:=a) (by rw[e];exact hg) (by rw[e];exact hl) (by rw[e];exact ha) hc (by rw[e];exact PU)
 | @Er id i off hg=>exact .Er (by rw[(hφ id (by simp[V.has])).2 (by simp[V.sP])];exact hg)
 | @sY id i off g hg=>have e:=(hφ id (by simp[V.has])).2 (by simp[V.sP]);have:=ai.sY (P:=P) (μ:=μ') (φ:=φ') (id:=id) (i:=i) (off:=off) (g:=g) (by rw[e];exact hg);rw[e]at this;exact this
 | @wC id i off s j off2 g hg hs=>have e:=(hφ id (by simp[V.has])).2 (by simp[V.sP]);exact .wC (by rw[e];exact hg) (by rw[e];exact hs)
 | @om id g hg=>exact .om (by rw[(hφ id (by simp[V.has])).1];exact hg)
 | @yl id g hg=>exact .yl (by rw[(hφ id (by simp[V.has])).1];exact hg)
 | @it id g hg=>exact .it (by rw[(hφ id (by simp[V.has])).1];exact hg)
 |fn h1 _ ih=>exact .fn h1 (fun i p x hi hx=>ih i p x hi hx (fun id hid=>⟨(hφ id (by simp only[V.has];exact bL (List.mem_of_getElem? hi) hid)).1,fun h2=>(hφ id (by simp only[V.has];exact bL (List.mem_of_getElem? hi) hid)).2 (by simp only[V.sP];exact uE (List.mem_of_getElem? hi) h2)⟩))
 |agg h1 _ h3 ih=>exact .agg h1 (fun i p x hi hx=>ih i p x hi hx (fun id hid=>⟨(hφ id (by simp only[V.has];exact bL (List.mem_of_getElem? hi) hid)).1,fun h2=>(hφ id (by simp only[V.has];exact bL (List.mem_of_getElem? hi) hid)).2 (by simp only[V.sP];exact uE (List.mem_of_getElem? hi) h2)⟩)) h3
 |bm h1 _ ih=>exact .bm h1 (fun i p x hi hx=>ih i p x hi hx (fun id hid=>⟨(hφ id (by simp only[V.has];exact bL (List.mem_of_getElem? hi) hid)).1,fun h2=>(hφ id (by simp only[V.has];exact bL (List.mem_of_getElem? hi) hid)).2 (by simp only[V.sP];exact uE (List.mem_of_getElem? hi) h2)⟩))
 |top=>exact .top
theorem ai.vn(h:∀b o,μ b=some o→μ' b=some o)(hv:ai P μ φ v x):ai P μ' φ v x:=hv.mono h fun _ _=>rfl
theorem ai.kill(id:Nat)(hv:ai P μ φ v x):ai P μ φ (pM id v) x:=by
 unfold pM;cases v.has id<;>simp
 ·exact hv
 ·exact .top
theorem ai.vo(id:Nat)(hv:ai P μ φ v x):ai P μ φ (lW id v) x:=by
 unfold lW;cases v.sP id<;>simp
 ·exact hv
 ·exact .top
theorem uF{id j:Nat}(h:(lW id v).has j=true):v.has j=true∧(lW id v).sP id=false:=by unfold lW at h⊢;cases hv:v.sP id<;>simp[hv,V.has]at h⊢;exact h
theorem eg.pure{R:y9}{w:World}(h:aj P μ p x):eg P μ R w p x:=by
 unfold eg;split
 ·cases h
 ·exact h
theorem eg.Mr{R:y9}{w:World}(h:eg P μ R w p x)(hp:p.isRow=false):aj P μ p x:=by
 unfold eg at h;split at h
 ·cases hp
 ·exact h
theorem aj.Aq(h:aj P μ p x):p.isRow=false:=by cases h<;>rfl
theorem ti{id j:Nat}(h:(pM id v).has j=true):v.has j=true∧j≠id:=by
 unfold pM at h;cases hv:v.has id<;>simp[hv,V.has]at h
 ·refine⟨h,fun e=>?_⟩;subst e;rw[h]at hv;cases hv
end
end Go.Ab
set_option linter.unusedVariables false
namespace Go.Ab
open Go.RowKit (Below)
section
variable {P:Program} {G:Nat→Option (List PV)} {w0:bx} {μ:Ro} {φ:Nat→aF} {f:Fr} {m:Mem} {w:World}
@[simp] theorem adW(p:PV)(id:Nat):(V.pv p).has id=false:=by simp[V.has]
@[simp] theorem adT(id:Nat):V.top.has id=false:=by simp[V.has]
@[simp] theorem ZI(id:Nat):V.bj.has id=false:=by simp[V.has]
theorem Ms(cs:List PV)(id:Nat):cq id (cs.map .pv)=false:=by
 induction cs with
 |nil=>rfl
 |cons c r ih=>simp[cq,ih]
theorem rS(k:IntKind)(n:Int):(Lit.int k n).wf=true↔k.min≤n∧n≤k.max:=by simp[Lit.wf]
theorem wf_wrap(k:IntKind)(n:Int):(Lit.int k (k.wrap n)).wf=true:=by rw[rS];cases k<;>simp only[IntKind.wrap,IntKind.min,IntKind.max,IntKind.signed,IntKind.bits]<;>simp<;>(try split)<;>omega
theorem aj.one{p:PV}{x:Value}(h:aj P μ p x)(h1:∀cs,p≠.agg cs)(h2:∀cs,p≠.bm cs)(h3:p≠.bad):x.oneCell'=true:=by cases h<;>first|rfl|exact absurd rfl (h1 _)|exact absurd rfl (h2 _)|exact absurd rfl h3
theorem A0(c:Value):ai P μ φ (xM c) c:=by
 unfold xM;split
 ·split
  ·exact .pv (.int (by assumption))
  ·exact .top
 ·exact .pv .bool
 ·rename_i s;split
  ·exact .pv (.str (by assumption))
  ·exact .top
 ·exact .pv .ny
 ·exact .bj
 ·exact .pv .sN
 ·exact .pv .xL
 ·exact .pv .Qu
 ·exact .top
theorem A1(c:Value)(id:Nat):(xM c).has id=false:=by unfold xM;split<;>(try split)<;>simp
theorem Dc(c:Value)(id:Nat):(C4 c).has id=false:=by
 unfold C4;split
 ·rename_i cs;split
  ·simp only[V.has];rw[Bool.eq_false_iff];intro h;obtain⟨v,hv,hh⟩:=cT.1 h;obtain⟨x,_,rfl⟩:=List.mem_map.1 hv;rw[A1]at hh;cases hh
  ·simp
 ·exact A1 _ _
theorem qS(c:Value):ai P μ φ (C4 c) c:=by
 unfold C4;split
 ·rename_i cs;split
  ·rename_i hc;refine .agg (by simp) (fun i p x hi hx=>?_) (fun i x hx=>?_)
   ·simp only[List.getElem?_map,Array.getElem?_toList,hx,Option.map_some,Option.some.injEq]at hi;subst hi;exact A0 x
   ·rw[List.all_eq_true]at hc;have:=hc x (by rw[←Array.getElem?_toList]at hx;exact List.mem_of_getElem? hx);cases x<;>first|rfl|(simp at this)
  ·exact .top
 ·exact A0 _
end
section
variable {R:Type} {E:Env} {w0:bx} {μ:Ro} {φ:Nat→aF} {f:Fr} {m:Mem} {a:Act} {w:World}
theorem ak(h:Rel E.P E.aH E.fn.ntmps w0 μ φ f m a w)(x:Operand):ai E.P μ φ (bB E f x) (a.eval x)∧∀id,(bB E f x).has id=true→(m id).isSome=true:=by
 cases x with
 |tmp t=>
  simp only[bB];cases e:Nat.blt t E.fn.ntmps with
  |true=>
   have br:t<E.fn.ntmps:=by rwa[Nat.blt_eq]at e
   have:=h.fr t;rw[og br]at this;exact⟨this,h.live t⟩
  |false=>exact⟨.top,fun id hid=>by cases hid⟩
 |const c=>exact⟨qS c,fun id hid=>by simp only[bB]at hid;rw[Dc]at hid;cases hid⟩
 |global g=>
  simp only[bB];cases hg:E.aH g with
  |none=>exact⟨.top,by simp⟩
  |some cs=>exact⟨.pv (h.aH g cs hg).rep,by simp⟩
 |func g=>exact⟨.fn (by simp) (by simp),by simp[bB,V.has,cq]⟩
variable{p:PV}
theorem mf{sz j:Nat}{q:PV}(h:(aK sz p)[j]?=some q):j<sz∧q=cell p j:=by
 unfold aK at h;have key:∀(n o j:Nat),(kv p o n)[j]?=some q→j<n∧q=cell p (o+j):=by
  intro n;induction n with
  |zero=>intro o j hj;simp[kv]at hj
  |succ n ih=>
   intro o j hj;cases j with
   |zero=>simp[kv]at hj;exact⟨by omega,by simp[hj]⟩
   |succ j=>simp only[kv,List.getElem?_cons_succ]at hj;obtain⟨h1,h2⟩:=ih (o+1) j hj;exact⟨by omega,by rw[h2];congr 1;omega⟩
 have:=key sz 0 j h;simpa using this
theorem bl(sz:Nat)(p:PV):(aK sz p).length=sz:=by
 unfold aK;have:∀n o,(kv p o n).length=n:=by
  intro n;induction n with
  |zero=>intro o;rfl
  |succ n ih=>intro o;simp[kv,ih]
 exact this _ _
theorem fK{sz:Nat}(h:p.cells.length=sz):aK sz p=p.cells:=by
 apply List.ext_getElem?;intro j;by_cases hj:j<sz
 ·have h1:j<(aK sz p).length:=by rw[bl];exact hj
  have h2:=mf (List.getElem?_eq_getElem h1);rw[List.getElem?_eq_getElem h1,h2.2,cell,List.getD_eq_getElem?_getD,List.getElem?_eq_getElem (by omega)];rfl
 ·rw[List.getElem?_eq_none (by rw[bl];omega),List.getElem?_eq_none (by omega)]
theorem aj.vp{P:Program}{μ:Ro}{n:Nat}{cs:List PV}{x:Value}(h:aj P μ (.agg cs) x)(hn:cs.length=n):aj P μ (.agg (aK n (.agg cs))) x:=by rw[fK (p:=.agg cs) (by simpa[PV.cells]using hn)];exact h
variable{t:TypeId}{k:PV→Option R}
theorem jL{r:R}(h:fJ E t p k=some r):∃q,(∀(R':Type)(k':PV→Option R'),fJ E t p k'=k' q)∧k q=some r∧(∀(P:Program)(μ:Ro)x,aj P μ p x→aj P μ q x)∧q≠.bad∧(∀cs,q≠.bm cs)∧(aD E.P t=false→∀cs,q≠.agg cs):=by
 unfold fJ at h;split at h
 ·rename_i q hu;obtain⟨n,hn,hk⟩:=Option.bind_eq_some_iff.1 h;have hp:p=.int q n:=by cases p<;>simp[asInt]at hn;obtain⟨rfl,rfl⟩:=hn;rfl
  exact⟨.int q n,fun R' k'=>by simp[fJ,hu,hn],hk,fun P μ x hx=>hp▸hx,by simp,by simp,by simp⟩
 ·rename_i hu;obtain⟨n,hn,hk⟩:=Option.bind_eq_some_iff.1 h;have hp:p=.bool n:=by cases p<;>simp[asBool]at hn;subst hn;rfl
  exact⟨.bool n,fun R' k'=>by simp[fJ,hu,hn],hk,fun P μ x hx=>hp▸hx,by simp,by simp,by simp⟩
 ·rename_i hu;obtain⟨n,hn,hk⟩:=Option.bind_eq_some_iff.1 h;have hp:p=.str n:=by cases p<;>simp[bt]at hn;subst hn;rfl
  exact⟨.str n,fun R' k'=>by simp[fJ,hu,hn],hk,fun P μ x hx=>hp▸hx,by simp,by simp,by simp⟩
 ·rename_i e hu;obtain⟨es,hn,hk⟩:=Option.bind_eq_some_iff.1 h;refine⟨.rs (aS E.P e) es,fun R' k'=>by simp[fJ,hu,hn],hk,fun P μ x hx=>?_,by simp,by simp,by simp⟩;cases p<;>simp[ab]at hn;split at hn
  ·rename_i hs;simp only[Option.some.injEq]at hn;rw[←hs,←hn];exact hx
  ·split at hn
   ·simp only[Option.some.injEq]at hn;subst hn;cases hx with
    |jl=>exact .jl
    |FX h=>exact .FX h
    |rs X h1 h2 _ _ _ _=>exact .FX h2
   ·cases hn
 ·rename_i fs hu;obtain⟨u,hn,hk⟩:=Option.bind_eq_some_iff.1 h;refine⟨_,fun R' k'=>by simp[fJ,hu,hn],hk,fun P μ x hx=>?_,by simp,by simp,by simp[aD,hu]⟩;cases p<;>simp[asAgg]at hn;exact hx.vp hn
 ·rename_i n e hu;obtain⟨u,hn,hk⟩:=Option.bind_eq_some_iff.1 h;refine⟨_,fun R' k'=>by simp[fJ,hu,hn],hk,fun P μ x hx=>?_,by simp,by simp,by simp[aD,hu]⟩;cases p<;>simp[asAgg]at hn;exact hx.vp hn
 ·rename_i e hu;split at h
  ·exact⟨.ny,fun R' k'=>by simp[fJ,hu],h,fun P μ x hx=>hx,by simp,by simp,by simp⟩
  ·rename_i cs;exact⟨.rp cs,fun R' k'=>by simp[fJ,hu],h,fun P μ x hx=>hx,by simp,by simp,by simp⟩
  ·cases h
 ·rename_i kt et hu;unfold dP at h;split at h
  ·exact⟨.sN,fun R' k'=>by simp[fJ,hu,dP],h,fun P μ x hx=>hx,by simp,by simp,by simp⟩
  ·rename_i sQ ks vs;split at h
   ·rename_i he;subst he;exact⟨.rm _ ks vs,fun R' k'=>by simp[fJ,hu,dP],h,fun P μ x hx=>hx,by simp,by simp,by simp⟩
   ·cases h
  ·cases h
 ·rename_i ps rs vr hu;split at h
  ·exact⟨.xL,fun R' k'=>by simp[fJ,hu],h,fun P μ x hx=>hx,by simp,by simp,by simp⟩
  ·rename_i g cs;exact⟨.fn g cs,fun R' k'=>by simp[fJ,hu],h,fun P μ x hx=>hx,by simp,by simp,by simp⟩
  ·cases h
 ·rename_i ms hu;obtain⟨n,hn,hk⟩:=Option.bind_eq_some_iff.1 h;have hp:p=.Tu n:=by cases p<;>simp[Ml]at hn;subst hn;rfl
  exact⟨.Tu n,fun R' k'=>by simp[fJ,hu,hn],hk,fun P μ x hx=>hp▸hx,by simp,by simp,by simp⟩
 ·cases h
theorem Gl{v:V}{k:V→Option R}{r:R}(h:wF E t v k=some r):∃u,(∀(R':Type)(k':V→Option R'),wF E t v k'=k' u)∧k u=some r∧(∀(P:Program)(μ:Ro)(φ:Nat→aF)x,ai P μ φ v x→ai P μ φ u x)∧(∀id,u.has id=true→v.has id=true):=by
 unfold wF at h;split at h
 ·obtain⟨q,h1,h2,h3,_⟩:=jL h;exact⟨.pv q,fun R' k'=>by simp[wF,h1],h2,fun P μ φ x hx=>by cases hx with|pv hp=>exact .pv (h3 _ _ _ hp),by simp⟩
 ·cases h
 ·rename_i h1 h2;split at h
  ·rename_i hu;refine⟨v,fun R' k'=>?_,h,fun _ _ _ _ hx=>hx,fun _ h=>h⟩;unfold wF;cases v<;>first|(simp only[hu,if_true];done)|exact absurd rfl (h1 _)|exact absurd rfl h2
  ·cases h
theorem tl{r:R}(h:fJ E t p k=some r):∃d,E.P.underlying t=some d:=by
 unfold fJ at h;cases hq:E.P.underlying t with
 |none=>simp[hq]at h
 |some d=>exact⟨d,rfl⟩
theorem Dd{v:V}{k:V→Option R}{r:R}(h:wF E t v k=some r):∃d,E.P.underlying t=some d:=by
 unfold wF at h;split at h
 ·exact tl h
 ·cases h
 ·split at h
  ·rename_i hu;exact Option.isSome_iff_exists.1 hu
  ·cases h
end
end Go.Ab
set_option linter.unusedVariables false
namespace Go.Ab
open Go.RowKit (Below)
section
variable {P:Program} {G:Nat→Option (List PV)} {w0:bx} {μ:Ro} {φ:Nat→aF} {m:Mem} {w:World}
variable{t:TypeId}{d:TypeDesc}
theorem zb(h:P.underlying t=some d):(P.info? t).map (·.size)=some (aS P t):=by
 unfold Program.underlying at h;cases hi:P.info? t with
 |none=>simp[hi]at h
 |some i=>simp[aS,hi]
theorem A2(h:aD P t=true):∃d,P.underlying t=some d∧d.isRow=true:=by
 unfold aD at h;split at h
 ·rename_i fs hu;exact⟨_,hu,rfl⟩
 ·rename_i n e hu;exact⟨_,hu,rfl⟩
 ·cases h
theorem xY(hu:P.underlying t=some d):(isAgg t).run P w=.ok (aD P t) w:=by unfold isAgg;simp only[Sem.run_bind,run_underlying hu,Result.andThen_ok,aD,hu];cases d<;>rfl
theorem zd(hu:P.underlying t=some d):(sizeOf t).run P w=.ok (aS P t) w:=by
 have:=zb hu;cases hi:P.info? t with
 |none=>simp[hi]at this
 |some i=>simp[sizeOf,typeInfo,hi,aS]
variable{o:Nat}
theorem gj{b:Nat}{y:Value}(hu:P.underlying t=some d)(ha:aD P t=false)(hc:w.cell? ⟨b,o,none⟩=some y):(Instr.loadAt t (.pointer (some ⟨b,o,none⟩))).run P w=.ok y w:=by simp only[Instr.loadAt,Instr.sureAddr,loadVar,Sem.run_bind,Sem.run_pure,Result.andThen_ok,xY hu,ha];simp[load,Sem.run,hc]
theorem oi{b:Nat}{cs:List Value}(ha:aD P t=true)(hc:w.rangeAt b o cs)(hl:cs.length=aS P t):(Instr.loadAt t (.pointer (some ⟨b,o,none⟩))).run P w=.ok (.agg cs.toArray) w:=by obtain⟨d,hu,hd⟩:=A2 ha;exact run_loadAt_mid w b o t cs d hc hu hd (by rw[zb hu,hl])
theorem ax.cellAt(hM:ax P G w0 μ φ m w){b o:Nat}{x:Value}(h:cellAt μ b o=some x):w.cell? ⟨b,o,none⟩=some x:=by
 unfold Go.Ab.cellAt at h;split at h
 ·rename_i c t fz hb;simp[World.cell?,hM.ro _ _ hb,h]
 ·cases h
theorem dM{g:Nat}{c:Array Value}{T:TypeId}{fz:Nat×Nat}(h:w.heap[g]?=some (.cells c T fz)):w.cell? ⟨g,o,none⟩=c[o]?:=by simp[World.cell?,h]
theorem ek{T:Type}{l:List T}{n i:Nat}{x:T}(h:(l.take n)[i]?=some x):i<n∧l[i]?=some x:=by
 rw[List.getElem?_take]at h;split at h
 ·exact⟨by assumption,h⟩
 ·cases h
theorem dN{T:Type}{l:List T}{n i:Nat}{x:T}(h:((l.drop o).take n)[i]?=some x):i<n∧l[o+i]?=some x:=by
 rw[List.getElem?_take]at h;split at h
 ·rw[List.getElem?_drop]at h;exact⟨by assumption,h⟩
 ·cases h
theorem aj.WY{cs:List PV}{b n:Nat}{X:Nat→Value}(hM:ax P G w0 μ φ m w)(h1:∀(i:Nat)p,cs[i]?=some p→Go.Ab.cellAt μ b (o+i)=some (X i))(h2:∀(i:Nat)p,cs[i]?=some p→aj P μ p (X i))(h3:∀i:Nat,i<cs.length→(X i).oneCell'=true)(hn:n≤cs.length):w.rangeAt b o ((List.range n).map X)∧aj P μ (.agg (cs.take n)) (.agg ((List.range n).map X).toArray):=by
 have hX:∀i x,((List.range n).map X)[i]?=some x→i<n∧x=X i:=by
  intro i x hx;have hi:i<n:=by have:=(List.getElem?_eq_some_iff.1 hx).1;simpa using this
  rw[List.getElem?_map,List.getElem?_range hi]at hx;simp at hx;exact⟨hi,hx.symm⟩
 refine⟨fun j v hv=>?_,.agg (by simp;omega) (fun i p x hi hx=>?_) (fun i x hx=>?_)⟩
 ·obtain⟨hj,rfl⟩:=hX j v hv;exact hM.cellAt (h1 j _ (List.getElem?_eq_getElem (by omega)))
 ·rw[List.getElem?_toArray]at hx;obtain⟨hj,rfl⟩:=hX i x hx;exact h2 i p (ek hi).2
 ·rw[List.getElem?_toArray]at hx;obtain⟨hj,rfl⟩:=hX i x hx;exact h3 i (by omega)
end
section
variable {R:Type} {E:Env}
def Quiet(v:V)(m:Mem):Prop:=∀id,v.has id=true→(m id).isSome=true
theorem gD{g:V→Option PV}{cs:List V}{ps:List PV}(h:nZ g cs=some ps):ps.length=cs.length∧∀(i:Nat)p,ps[i]?=some p→∃v,cs[i]?=some v∧g v=some p:=by
 induction cs generalizing ps with
 |nil=>simp[nZ]at h;subst h;simp
 |cons c r ih=>
  simp only[nZ]at h;obtain⟨p,hp,h⟩:=Option.bind_eq_some_iff.1 h;obtain⟨ZJ,lZ,h⟩:=Option.bind_eq_some_iff.1 h;simp only[Option.some.injEq]at h;subst h;obtain⟨h1,h2⟩:=ih lZ;refine⟨by simp[h1],fun i q hq=>?_⟩;cases i with
  |zero=>simp at hq;subst hq;exact⟨c,by simp,hp⟩
  |succ i=>simp at hq;simpa using h2 i q hq
variable{off:Nat}{t:TypeId}{e:PV}
theorem De{s:Nat}{k:V→Option R}{r:R}(h:qg E s t e off k=some r):∃v,(∀(R':Type)(k':V→Option R'),qg E s t e off k'=k' v)∧k v=some r∧(∀id,v.has id=false)∧∀(μ:Ro)(φ:Nat→aF)(w:World)(g o:Nat)(c:Array Value)(T:TypeId),w.heap[g]?=some (.cells c T (0,0))→e.cells.length=s→(∀(j:Nat)p x,e.cells[j]?=some p→c[o+j]?=some x→aj E.P μ p x)→(∀(i:Nat)(x:Value),i<o+s→c[i]?=some x→x.oneCell'=true)→o+s≤c.size→∃y,(Instr.loadAt t (.pointer (some ⟨g,o+off,none⟩))).run E.P w=.ok y w∧ai E.P μ φ v y:=by
 unfold qg at h;split at h
 ·rename_i ha;split at h
  ·rename_i hb;refine⟨_,fun R' k'=>by simp[qg,ha,hb],h,by simp,fun μ φ w g o c T hg hs hc h1 hl=>?_⟩;have hR:w.rangeAt g (o+off) ((c.toList.drop (o+off)).take (aS E.P t)):=fun j v hv=>by obtain⟨_,hv⟩:=dN hv;rw[dM hg];simpa using hv
   refine⟨_,oi ha hR (by simp;omega),.pv (.agg (by simp[bl];omega) (fun i p x hi hx=>?_) (fun i x hx=>?_))⟩
   ·rw[List.getElem?_toArray]at hx;obtain⟨_,hx⟩:=dN hx;rw[fK hs]at hi;obtain⟨_,hi⟩:=dN hi;exact hc _ p x hi (by simpa[Nat.add_assoc]using hx)
   ·rw[List.getElem?_toArray]at hx;obtain⟨_,hx⟩:=dN hx;have hx:c[o+off+i]?=some x:=by simpa using hx
    exact h1 _ x (by omega) hx
  ·cases h
 ·rename_i ha;have ha:aD E.P t=false:=by simpa using ha
  split at h
  ·rename_i p hp;obtain⟨q,h1,h2,h3,_⟩:=jL h;obtain⟨d,hu⟩:=tl h;refine⟨.pv q,fun R' k'=>by simp[qg,ha,hp,h1],h2,by simp,fun μ φ w g o c T hg hs hc _ hl=>?_⟩;rw[fK hs]at hp;have N0:off<e.cells.length:=(List.getElem?_eq_some_iff.1 hp).1;have hx:c[o+off]?=some c[o+off]:=Array.getElem?_eq_getElem (by omega);exact⟨_,gj hu ha (by rw[dM hg];exact hx),.pv (h3 _ _ _ (hc off p _ hp hx))⟩
  ·cases h
variable{p:PV}
theorem N1{k:PV→Option R}{r:R}(h:fJ E t p k=some r):p.isRow=false∧p≠.bad:=by
 cases p with
 |fP s es=>exfalso;unfold fJ at h;split at h<;>simp[asInt,asBool,bt,ab,asAgg,Ml,dP]at h
 |bad=>exfalso;unfold fJ at h;split at h<;>simp[asInt,asBool,bt,ab,asAgg,Ml,dP]at h
 |_=>exact⟨rfl,by simp⟩
theorem Df(h:cell e off=p)(hp:p≠.bad):e.cells[off]?=some p:=by
 unfold cell at h;rw[List.getD_eq_getElem?_getD]at h;cases he:e.cells[off]? with
 |none=>rw[he]at h;simp at h;exact absurd h.symm hp
 |some q=>rw[he]at h;simp at h;rw[h]
theorem Gm{s:Nat}{rs:List PV}(h:aY s p=some rs):p=.fP s rs:=by
 unfold aY at h;split at h
 ·split at h
  ·rename_i e;subst e;simp only[Option.some.injEq]at h;subst h;rfl
  ·cases h
 ·cases h
variable{P:Program}{μ:Ro}{φ:Nat→aF}{id i:Nat}
theorem aV.cell{w:World}{sz:Nat}{et:TypeId}{es:List PV}(h:aV P μ φ w id sz et es){g:Nat}(hg:(φ id).g=some g)(he:es[i]?=some e)(hp:e.cells[off]?=some p):∃c x,w.heap[g]?=some (.cells c et (0,0))∧c[i*sz+off]?=some x∧eg P μ ((φ id).row i off) w p x∧x.oneCell'=true:=by
 obtain⟨a1,a2,a3,a4,a5,a6,a7⟩:=h;rw[hg]at a7;obtain⟨c,c1,c2,c3,c4,c5⟩:=a7;have hi:i<es.length:=(List.getElem?_eq_some_iff.1 he).1;have ho:off<sz:=by rw[←a5 i e he];exact(List.getElem?_eq_some_iff.1 hp).1
 have h1:(i+1)*sz≤es.length*sz:=Nat.mul_le_mul_right _ (by omega);have h2:es.length*sz≤(φ id).cap*sz:=Nat.mul_le_mul_right _ c3;rw[Nat.add_mul]at h1;have br:i*sz+off<c.size:=by omega
 exact⟨c,c[i*sz+off],c1,Array.getElem?_eq_getElem br,c4 i e off p _ he hp (Array.getElem?_eq_getElem br),c5 (i*sz+off) _ (by omega) (Array.getElem?_eq_getElem br)⟩
theorem aV.row{w:World}{sz:Nat}{et:TypeId}{es:List PV}(h:aV P μ φ w id sz et es){s:Nat}{rs:List PV}(he:es[i]?=some e)(hr:aY s (Go.Ab.cell e off)=some rs):∃g x,(φ id).g=some g∧w.cell? ⟨g,i*sz+off,none⟩=some x∧eK P μ ((φ id).row i off) w s rs x∧e.cells[off]?=some (.fP s rs):=by
 have hp:=Df (Gm hr) (by simp);cases hg:(φ id).g with
 |none=>obtain⟨a1,a2,a3,a4,a5,a6,a7⟩:=h;rw[hg]at a7;rw[a7.1]at he;simp at he
 |some g=>obtain⟨c,x,c1,c2,c3,_⟩:=h.cell hg he hp;exact⟨g,x,rfl,by rw[dM c1];exact c2,c3,hp⟩
theorem ai.WZ{ν:Ro}{x:Value}(h:ai P μ (fun _=>((φ id).row i off).up) (.os 0) x):ai P ν φ (.sY id i off) x:=by
 cases h with
 |pA h=>exact .Er h
 |os h=>exact .sY h
theorem ai.IZ{ν:Ro}{x:Value}(h:ai P μ φ (.sY id i off) x):ai P ν (fun _=>((φ id).row i off).up) (.os 0) x:=by
 cases h with
 |Er h=>exact .pA h
 |sY h=>exact .os (id:=0) (φ:=fun _=>((φ id).row i off).up) h
theorem Gk{own:Bool}{a:V}{m:Mem}{k:V→bp→Option R}{r:R}(h:ob E own t a m k=some r):∃v ft,(∀m2:Mem,(∀x∈ft,m2 x.2=m x.2)→∀(R':Type)(k':V→bp→Option R'),ob E own t a m2 k'=k' v ft)∧k v ft=some r∧(∀x∈ft,x.1=false)∧∀(G:Nat→Option (List PV))(w0:bx)(μ:Ro)(φ:Nat→aF)(w:World)(x:Value),ax E.P G w0 μ φ m w→ai E.P μ φ a x→∃y,(Instr.loadAt t x).run E.P w=.ok y w∧ai E.P μ φ v y∧Quiet v m:=by
 unfold ob at h;split at h
 ·rename_i cs;split at h
  ·rename_i ha;split at h
   ·rename_i hn;refine⟨_,_,fun m2 _ R' k'=>by simp[ob,ha,hn],h,by simp,fun G w0 μ φ w x hM hx=>?_⟩;cases hx with
    |pv hp=>cases hp with
     |rp X h1 h2 h3=>obtain⟨hr,hv⟩:=aj.WY hM h1 h2 h3 hn;exact⟨_,oi ha hr (by simp),.pv hv,by simp[Quiet]⟩
   ·cases h
  ·rename_i ha;have ha:aD E.P t=false:=by simpa using ha
   obtain⟨p,CF,h⟩:=Option.bind_eq_some_iff.1 h;have ZK:cs[0]?=some p:=by rw[←List.head?_eq_getElem?];exact CF
   obtain⟨q,h1,h2,h3,_⟩:=jL h;refine⟨_,_,fun m2 _ R' k'=>by simp[ob,ha,CF,h1],h2,by simp,fun G w0 μ φ w x hM hx=>?_⟩;obtain⟨d,hu⟩:=tl h;cases hx with
   |pv hp=>cases hp with
    |rp X g1 g2 g3=>have hc:=hM.cellAt (g1 0 p ZK);exact⟨_,gj hu ha (by simpa using hc),.pv (h3 _ _ _ (g2 0 p ZK)),by simp[Quiet]⟩
 ·rename_i id off;split at h
  ·rename_i cs hm;split at h
   ·rename_i ha;split at h
    ·rename_i hn;refine⟨_,_,fun m2 cG R' k'=>by simp[ob,ha,hn,cG (false,id) (by simp),hm],h,by simp,fun G w0 μ φ w x hM hx=>?_⟩;cases hx with
     | @op _ _ g hg=>
      obtain⟨g',c,T,bV,hh,hs,hv,h1,xZ⟩:=hM.dI id _ hm;rw[hg]at bV;simp only[Option.some.injEq]at bV;subst bV;have hR:w.rangeAt g off ((c.toList.drop off).take (aS E.P t)):=fun j v hv=>by obtain⟨_,hv⟩:=dN hv;rw[dM hh];simpa using hv
      refine⟨_,oi ha hR (by simp;omega),.agg (by simp;omega) (fun i p x hi hx=>?_) (fun i x hx=>?_),?_⟩
      ·rw[List.getElem?_toArray]at hx;obtain⟨_,hx⟩:=dN hx;obtain⟨_,hi⟩:=dN hi;exact hv _ p x hi (by simpa using hx)
      ·rw[List.getElem?_toArray]at hx;obtain⟨_,hx⟩:=dN hx;exact h1 _ x (by simpa using hx)
      ·intro nA hid;simp only[V.has]at hid;obtain⟨v,hv,hh⟩:=cT.1 hid;exact hM.fi id cs nA hm (bL (List.mem_of_mem_drop (List.mem_of_mem_take hv)) hh)
    ·cases h
   ·rename_i ha;have ha:aD E.P t=false:=by simpa using ha
    split at h
    ·rename_i ps lZ;obtain⟨p,CF,h⟩:=Option.bind_eq_some_iff.1 h;obtain⟨q,h1,h2,h3,_⟩:=jL h;refine⟨_,_,fun m2 cG R' k'=>by simp[ob,ha,cG (false,id) (by simp),hm,lZ,CF,h1],h2,by simp,fun G w0 μ φ w x hM hx=>?_⟩;cases hx with
     | @op _ _ g hg=>
      obtain⟨g',c,T,bV,hh,hs,hvv,_⟩:=hM.dI id _ hm;rw[hg]at bV;simp only[Option.some.injEq]at bV;subst bV;obtain⟨f1,f2⟩:=gD lZ;obtain⟨br,ZK⟩:=List.getElem?_eq_some_iff.1 CF;have N0:off<cs.length:=by omega
      obtain⟨v,hv,lR⟩:=f2 off p CF;have hvp:v=.pv p:=by cases v<;>simp[pN]at lR;subst lR;rfl
      subst hvp;have hx:c[off]?=some c[off]:=Array.getElem?_eq_getElem (by omega);obtain⟨d,hu⟩:=tl h;have hr:=hvv off _ _ hv hx;cases hr with
      |pv hr=>exact⟨_,gj hu ha (by rw[dM hh];exact hx),.pv (h3 _ _ _ hr),by simp[Quiet]⟩
    ·rename_i Tv;split at h
     ·rename_i v hv;obtain⟨u,h1,h2,h3,h4⟩:=Gl h;refine⟨_,_,fun m2 cG R' k'=>by simp[ob,ha,cG (false,id) (by simp),hm,Tv,hv,h1],h2,by simp,fun G w0 μ φ w x hM hx=>?_⟩;cases hx with
      | @op _ _ g hg=>obtain⟨g',c,T,bV,hh,hs,hvv,_⟩:=hM.dI id _ hm;rw[hg]at bV;simp only[Option.some.injEq]at bV;subst bV;have N0:off<cs.length:=(List.getElem?_eq_some_iff.1 hv).1;have hx:c[off]?=some c[off]:=Array.getElem?_eq_getElem (by omega);obtain⟨d,hu⟩:=Dd h;refine⟨_,gj hu ha (by rw[dM hh];exact hx),h3 _ _ _ _ (hvv off v _ hv hx),fun nA hid=>?_⟩;exact hM.fi id cs nA hm (bL (List.mem_of_getElem? hv) (h4 nA hid))
     ·cases h
  ·cases h
 ·rename_i id i off;have key:∀(sz:Nat)(et:TypeId)(es:List PV),(m id=some (.arr sz et es)∨m id=some (.nM sz et es))→((es[i]?).bind fun e=>qg E sz t e off fun v=>k v [(false,id)])=some r→∃v,(∀(R':Type)(k':V→bp→Option R'),((es[i]?).bind fun e=>qg E sz t e off fun v=>k' v [(false,id)])=k' v [(false,id)])∧k v [(false,id)]=some r∧∀(G:Nat→Option (List PV))(w0:bx)(μ:Ro)(φ:Nat→aF)(w:World)(x:Value),ax E.P G w0 μ φ m w→ai E.P μ φ (.oe id i off) x→∃y,(Instr.loadAt t x).run E.P w=.ok y w∧ai E.P μ φ v y∧Quiet v m:=by
   intro sz et es hm hb;obtain⟨e,he,hb⟩:=Option.bind_eq_some_iff.1 hb;obtain⟨v,h1,h2,h3,h4⟩:=De hb;refine⟨v,fun R' k'=>by simp[he,h1],h2,fun G w0 μ φ w x hM hx=>?_⟩;have hA:aL E.P μ φ w id sz et es:=by
    rcases hm with hm|hm
    ·exact hM.dI id _ hm
    ·exact(hM.dI id _ hm).1
   cases hx with
   | @oe _ _ _ g hg=>
    obtain⟨a1,a2,a3,a4,a5,a6,a7⟩:=hA;rw[hg]at a7;obtain⟨c,c1,c2,c3,c4,c5⟩:=a7;have hi:i<es.length:=(List.getElem?_eq_some_iff.1 he).1;obtain⟨y,hy,hv⟩:=h4 μ φ w g (i*sz) c et c1 (a5 i e he) (fun j p x hj hx=>c4 i e j p x he hj hx) (fun i' x mW hx=>c5 i' x (by
     have:(i+1)*sz≤es.length*sz:=Nat.mul_le_mul_right _ (by omega);rw[Nat.add_mul]at this;omega) hx) (by
     have:(i+1)*sz≤(φ id).cap*sz:=Nat.mul_le_mul_right _ (by omega);rw[Nat.add_mul]at this;omega)
    rw[a2];exact⟨y,hy,hv,fun id hid=>by rw[h3]at hid;cases hid⟩
  split at h
  ·rename_i sz et es hm;obtain⟨v,h1,h2,h3⟩:=key sz et es (.inl hm) h;exact⟨v,_,fun m2 cG R' k'=>by have:=cG (false,id) (by simp);simp only at this;simp only[ob,this,hm];exact h1 R' k',h2,by simp,h3⟩
  ·rename_i sz et es hm;obtain⟨v,h1,h2,h3⟩:=key sz et es (.inr hm) h;exact⟨v,_,fun m2 cG R' k'=>by have:=cG (false,id) (by simp);simp only at this;simp only[ob,this,hm];exact h1 R' k',h2,by simp,h3⟩
  ·rename_i sz et es hm;split at h
   ·cases h
   ·rename_i ha;obtain⟨e,he,h⟩:=Option.bind_eq_some_iff.1 h;have VI:aD E.P t=false:=by simpa using ha
    split at h
    ·rename_i ho;split at h
     ·rename_i AP hu;obtain⟨rs,hr,h⟩:=Option.bind_eq_some_iff.1 h;refine⟨_,_,fun m2 cG R' k'=>by have:=cG (false,id) (by simp);simp only at this;simp only[ob,this,hm,if_neg ha,he,ho,hu,hr,Option.bind_some,if_true],h,by simp,fun G w0 μ φ w x hM hx=>?_⟩;have hN:aV E.P μ φ w id sz et es:=hM.dI id _ hm;obtain⟨g,y,hg,hc,iK,_⟩:=hN.row he hr;cases hx with
      |oe bV=>rw[hg]at bV;simp only[Option.some.injEq]at bV;subst bV;rw[hN.2.1];refine⟨y,gj hu VI hc,.WZ iK.2,fun j hj=>?_⟩;have:=Nat.eq_of_beq_eq_true hj;subst this;rw[hm];rfl
     ·cases h
    ·rename_i ho;obtain⟨q,h1,h2,h3,_⟩:=jL h;obtain⟨ZL,VJ⟩:=N1 h;obtain⟨d,hu⟩:=tl h;refine⟨_,_,fun m2 cG R' k'=>by have:=cG (false,id) (by simp);simp only at this;simp only[ob,this,hm,if_neg ha,he,ho,Option.bind_some,if_false,Bool.false_eq_true];exact h1 _ _,h2,by simp,fun G w0 μ φ w x hM hx=>?_⟩;have hN:aV E.P μ φ w id sz et es:=hM.dI id _ hm;cases hx with
     |oe hg=>obtain⟨c,y,c1,c2,c3,_⟩:=hN.cell hg he (Df rfl VJ);rw[hN.2.1];exact⟨y,gj hu VI (by rw[dM c1];exact c2),.pv (h3 _ _ _ (c3.Mr ZL)),by simp[Quiet]⟩
  ·cases h
 ·rename_i id i off s j off2;split at h
  ·rename_i sz et es hm;obtain⟨e,he,h⟩:=Option.bind_eq_some_iff.1 h;obtain⟨rs,hr,h⟩:=Option.bind_eq_some_iff.1 h;obtain⟨q,hq,h⟩:=Option.bind_eq_some_iff.1 h;obtain⟨v,h1,h2,h3,h4⟩:=De h;refine⟨v,_,fun m2 cG R' k'=>by have:=cG (false,id) (by simp);simp only at this;simp only[ob,this,hm,he,hr,hq,Option.bind_some];exact h1 R' _,h2,by simp,fun G w0 μ φ w x hM hx=>?_⟩;have hN:aV E.P μ φ w id sz et es:=hM.dI id _ hm;obtain⟨g,y,hg,hc,⟨⟨AP,hA⟩,hV⟩,_⟩:=hN.row he hr;cases hx with
   | @wC _ _ _ _ _ _ g' bV hs=>obtain⟨a1,a2,a3,a4,a5,a6,a7⟩:=hA;have hgu:((φ id).row i off).up.g=some g':=bV;rw[hgu]at a7;obtain⟨c,c1,c2,c3,c4,c5⟩:=a7;have hj:j<rs.length:=(List.getElem?_eq_some_iff.1 hq).1;have e1:(j+1)*s≤rs.length*s:=Nat.mul_le_mul_right _ (by omega);have e2:rs.length*s≤((φ id).row i off).up.cap*s:=Nat.mul_le_mul_right _ c3;have e3:((φ id).row i off).up.cap*s≤c.size:=c2;rw[Nat.add_mul]at e1;obtain⟨y,hy,hv⟩:=h4 μ φ w g' (j*s) c AP c1 (a5 j q hq) (fun l p x hl hx=>c4 j q l p x hq hl hx) (fun i' x mW hx=>c5 i' x (by omega) hx) (by omega);exact⟨y,hy,hv,fun id hid=>by rw[h3]at hid;cases hid⟩
  ·cases h
 ·cases h
end
end Go.Ab
set_option linter.unusedVariables false
namespace Go.Ab
open Go.RowKit (Below)
section
variable {R:Type} {E:Env}
variable{s t:TypeId}{j o:Nat}
theorem ze(h:wG E s j=some (o,t)):∃fs f,E.P.underlying s=some (.struct fs)∧fs[j]?=some f∧f.offset=o∧f.type=t∧aS E.P t≠0:=by
 unfold wG at h;split at h
 ·rename_i fs hu;split at h
  ·rename_i f hf;split at h
   ·cases h
   ·rename_i hz;simp only[Option.some.injEq,Prod.mk.injEq]at h;obtain⟨rfl,rfl⟩:=h;exact⟨fs,f,hu,hf,rfl,rfl,hz⟩
  ·cases h
 ·cases h
variable{P:Program}
theorem uG(h:aS P t≠0):∃i,P.info? t=some i∧i.size=aS P t:=by
 unfold aS at*;cases hi:P.info? t with
 |none=>simp[hi]at h
 |some i=>exact⟨i,rfl,by simp⟩
variable{w:World}
theorem gY(h:aS P t≠0):(sizeOf t).run P w=.ok (aS P t) w:=by obtain⟨i,hi,hs⟩:=uG h;simp[sizeOf,typeInfo,hi,hs]
theorem pP{fs:Array Field}{f:Field}{b:Nat}(hu:P.underlying s=some (.struct fs))(hf:fs[j]?=some f)(hz:aS P f.type≠0):(Instr.fieldAt s (.pointer (some ⟨b,o,none⟩)) j).run P w=.ok (.pointer (some ⟨b,o+f.offset,none⟩)) w:=by simp[Instr.fieldAt,run_underlying hu,hf,Instr.sureAddr,fieldPlace,gY hz,hz,Addr.add_mid]
theorem kP{T:Type}{l:List T}{i:Nat}{x:T}(h:(l.drop o)[i]?=some x):l[o+i]?=some x:=by rw[List.getElem?_drop]at h;exact h
theorem aj.Es{μ:Ro}{cs:List PV}{b:Nat}(n:Nat)(h:aj P μ (.rp cs) (.pointer (some ⟨b,o,none⟩))):aj P μ (.rp (cs.drop n)) (.pointer (some ⟨b,o+n,none⟩)):=by
 cases h with
 |rp X h1 h2 h3=>
  refine .rp (fun i=>X (n+i)) (fun i p hi=>?_) (fun i p hi=>h2 _ p (kP hi)) (fun i hi=>h3 _ ?_)
  ·have:=h1 _ p (kP hi);rw[Nat.add_assoc];exact this
  ·simp at hi;omega
variable{x:V}{k:V→Option R}{r:R}
theorem CL(h:iI E s x j k=some r):∃v,(∀(R':Type)(k':V→Option R'),iI E s x j k'=k' v)∧k v=some r∧(∀id,v.has id=x.has id)∧∀(μ:Ro)(φ:Nat→aF)(w:World)(y:Value),ai E.P μ φ x y→∃z,(Instr.fieldAt s y j).run E.P w=.ok z w∧ai E.P μ φ v z:=by
 unfold iI at h;split at h
 ·rename_i o t ho;obtain⟨fs,f,hu,hf,rfl,rfl,hz⟩:=ze ho;split at h
  ·rename_i cs;refine⟨_,fun R' k'=>by simp[iI,ho],h,by simp,fun μ φ w y hy=>?_⟩;cases hy with
   |pv hp=>cases hp with
    |rp X h1 h2 h3=>exact⟨_,pP hu hf hz,.pv (aj.Es _ (.rp X h1 h2 h3))⟩
  ·rename_i id off;refine⟨_,fun R' k'=>by simp[iI,ho],h,by simp[V.has],fun μ φ w y hy=>?_⟩;cases hy with
   |op hg=>exact⟨_,pP hu hf hz,.op hg⟩
  ·rename_i id i off;refine⟨_,fun R' k'=>by simp[iI,ho],h,by simp[V.has],fun μ φ w y hy=>?_⟩;cases hy with
   |oe hg=>exact⟨_,pP hu hf hz,by rw[Nat.add_assoc];exact .oe hg⟩
  ·refine⟨_,fun R' k'=>by simp[iI,ho],h,by simp[V.has],fun μ φ w y hy=>?_⟩;cases hy with
   |wC hg hs=>exact⟨_,pP hu hf hz,by rw[Nat.add_assoc];exact .wC hg hs⟩
  ·cases h
 ·cases h
theorem gk{e:TypeId}{q:IntKind}{i:Int}{ad:Addr}{len cap:Nat}(hu:P.underlying t=some (.slice e))(hz:aS P e≠0)(h0:0≤i)(h1:i<(len:Int)):(Instr.indexAt t (.slice (some ad) len cap) (.int q i)).run P w=.ok (.pointer (some (ad.add (i.toNat*aS P e)))) w:=by simp[Instr.indexAt,asIntOf,run_underlying hu,h0,h1,gY hz]
theorem mX{e:TypeId}{n:Nat}{q:IntKind}{i:Int}{ad:Addr}(hu:P.underlying t=some (.array n e))(hz:aS P e≠0)(h0:0≤i)(h1:i<(n:Int)):(Instr.indexAt t (.pointer (some ad)) (.int q i)).run P w=.ok (.pointer (some (ad.add (i.toNat*aS P e)))) w:=by simp[Instr.indexAt,asIntOf,run_underlying hu,h0,h1,gY hz,Instr.sureAddr]
theorem T4{es:List PV}{i:Int}{p:PV}(h:aZ es i=some p):0≤i∧es[i.toNat]?=some p∧i<(es.length:Int):=by
 unfold aZ at h;split at h
 ·rename_i h0;have:=(List.getElem?_eq_some_iff.1 h).1;exact⟨h0,h,by omega⟩
 ·cases h
theorem aj.Mt{μ:Ro}{sz:Nat}{es:List PV}{x:Value}{n:Nat}{p:PV}(h:aj P μ (.rs sz es) x)(hp:es[n]?=some p):∃b o cap,x=.slice (some ⟨b,o,none⟩) es.length cap∧aj P μ (.rp (aK sz p)) (.pointer (some ⟨b,o+n*sz,none⟩)):=by
 cases h with
 |jl=>simp at hp
 |FX _=>simp at hp
 | @rs _ _ b o cap X h1 h2 h3 h4 h5 h6=>refine⟨b,o,cap,rfl,?_⟩;rw[fK (h3 n p hp)];exact .rp (X n) (fun i q hi=>h4 n p i q hp hi) (fun i q hi=>h5 n p i q hp hi) (fun i hi=>h6 n p i _ hp (List.getElem?_eq_getElem hi))
theorem CM{ix:V}{m:Mem}{k:V→bp→Option R}(h:dx E t x ix m k=some r):∃v ft,(∀m2:Mem,(∀x∈ft,m2 x.2=m x.2)→∀(R':Type)(k':V→bp→Option R'),dx E t x ix m2 k'=k' v ft)∧k v ft=some r∧(∀x∈ft,x.1=false)∧(∀id,v.has id=true→x.has id=true)∧∀(G:Nat→Option (List PV))(w0:bx)(μ:Ro)(φ:Nat→aF)(w:World)(y z:Value),ax E.P G w0 μ φ m w→ai E.P μ φ x y→ai E.P μ φ ix z→∃u,(Instr.indexAt t y z).run E.P w=.ok u w∧ai E.P μ φ v u:=by
 unfold dx at h;split at h
 ·rename_i q i;split at h
  ·rename_i e s es hu;split at h
   ·rename_i hs;obtain⟨p,hp,hk⟩:=Option.bind_eq_some_iff.1 h;refine⟨_,_,fun m2 _ R' k'=>by simp only[dx,hu];rw[if_pos hs,hp];rfl,hk,by simp,by simp,fun G w0 μ φ w y z hM hy hz=>?_⟩;obtain⟨h0,hp,hl⟩:=T4 hp;cases hz with
    |pv hz=>cases hz with
     |int Ar=>
      cases hy with
      |pv hy=>obtain⟨b,o,cap,rfl,hr⟩:=hy.Mt hp;refine⟨_,gk hu (by omega) h0 hl,?_⟩;rw[Addr.add_mid,←hs.1];exact .pv hr
   ·cases h
  ·rename_i e id hu;have key:∀(s:Nat)(et:TypeId)(es:List PV),(m id=some (.arr s et es)∨m id=some (.nM s et es))→s=aS E.P e∧0<s→af i es.length→∀(G:Nat→Option (List PV))(w0:bx)(μ:Ro)(φ:Nat→aF)(w:World)(y z:Value),ax E.P G w0 μ φ m w→ai E.P μ φ (.os id) y→ai E.P μ φ (.pv (.int q i)) z→∃u,(Instr.indexAt t y z).run E.P w=.ok u w∧ai E.P μ φ (.oe id i.toNat 0) u:=by
    intro s et es hm hs hr G w0 μ φ w y z hM hy hz;have hA:aL E.P μ φ w id s et es:=by
     rcases hm with hm|hm
     ·exact hM.dI id _ hm
     ·exact(hM.dI id _ hm).1
    obtain⟨a1,a2,a3,a4,a5,a6,a7⟩:=hA;cases hz with
    |pv hz=>cases hz with
     |int Ar=>
      cases hy with
      |pA hg=>rw[hg]at a7;rw[a7.1]at hr;simp[af]at hr;omega
      | @os _ g hg=>refine⟨_,gk hu (by omega) hr.1 (by rw[a1];exact hr.2),?_⟩;rw[Addr.add_mid];have:=ai.oe (P:=E.P) (μ:=μ) (φ:=φ) (id:=id) (i:=i.toNat) (off:=0) hg;rw[a2,hs.1]at this;simpa using this
   split at h
   ·rename_i s et es hm;split at h
    ·rename_i hs;split at h
     ·rename_i hr;exact⟨_,_,fun m2 cG R' k'=>by have:=cG (false,id) (by simp);simp only at this;simp only[dx,hu,this,hm];rw[if_pos hs,if_pos hr],h,by simp,by simp[V.has],key s et es (.inl hm) hs hr⟩
     ·cases h
    ·cases h
   ·rename_i s et es hm;split at h
    ·rename_i hs;split at h
     ·rename_i hr;exact⟨_,_,fun m2 cG R' k'=>by have:=cG (false,id) (by simp);simp only at this;simp only[dx,hu,this,hm];rw[if_pos hs,if_pos hr],h,by simp,by simp[V.has],key s et es (.inr hm) hs hr⟩
     ·cases h
    ·cases h
   ·rename_i s et es hm;split at h
    ·rename_i hs;split at h
     ·rename_i hr;refine⟨_,_,fun m2 cG R' k'=>by have:=cG (false,id) (by simp);simp only at this;simp only[dx,hu,this,hm];rw[if_pos hs,if_pos hr],h,by simp,by simp[V.has],fun G w0 μ φ w y z hM hy hz=>?_⟩;have hA:aV E.P μ φ w id s et es:=hM.dI id _ hm;obtain⟨a1,a2,a3,a4,a5,a6,a7⟩:=hA;cases hz with
      |pv hz=>cases hz with
       |int Ar=>
        cases hy with
        |pA hg=>rw[hg]at a7;rw[a7.1]at hr;simp[af]at hr;omega
        | @os _ g hg=>refine⟨_,gk hu (by omega) hr.1 (by rw[a1];exact hr.2),?_⟩;rw[Addr.add_mid];have:=ai.oe (P:=E.P) (μ:=μ) (φ:=φ) (id:=id) (i:=i.toNat) (off:=0) hg;rw[a2,hs.1]at this;simpa using this
     ·cases h
    ·cases h
   ·rename_i cs hm;split at h
    ·rename_i hs;refine⟨_,_,fun m2 cG R' k'=>by have:=cG (false,id) (by simp);simp only at this;simp only[dx,hu,this,hm];rw[if_pos hs],h,by simp,by simp[V.has],fun G w0 μ φ w y z hM hy hz=>?_⟩;obtain⟨g,c,T,hg,hh,kM,hv,qT,xZ⟩:=hM.dI id _ hm;cases hz with
     |pv hz=>cases hz with
      |int Ar=>
       cases hy with
       |pA bV=>rw[hg]at bV;cases bV
       | @os _ g' bV=>refine⟨_,gk hu (by omega) hs.2.1 (by rw[xZ];exact hs.2.2),?_⟩;rw[Addr.add_mid,hs.1];have:=ai.op (P:=E.P) (μ:=μ) (φ:=φ) (id:=id) (off:=i.toNat) bV;simpa using this
    ·cases h
   ·cases h
  ·rename_i e id i0 off hu;split at h
   ·rename_i s0 et0 es hm;split at h
    ·rename_i eo;obtain⟨e0,he,h⟩:=Option.bind_eq_some_iff.1 h;obtain⟨rs,zX,h⟩:=Option.bind_eq_some_iff.1 h;split at h
     ·rename_i hr;refine⟨_,_,fun m2 cG R' k'=>by have:=cG (false,id) (by simp);simp only at this;simp only[dx,hu,this,hm];rw[if_pos eo,he];simp only[Option.bind_some,zX];rw[if_pos hr],h,by simp,by simp[V.has],fun G w0 μ φ w y z hM hy hz=>?_⟩;have hN:aV E.P μ φ w id s0 et0 es:=hM.dI id _ hm;obtain⟨_,_,_,_,⟨⟨AP,hA⟩,_⟩,_⟩:=hN.row he zX;obtain⟨a1,a2,a3,a4,a5,a6,a7⟩:=hA;cases hz with
      |pv hz=>cases hz with
       |int Ar=>
        cases hy with
        |Er hg=>have bV:((φ id).row i0 off).up.g=none:=hg;simp only[bV]at a7;rw[a7.1]at hr;simp[af]at hr;omega
        | @sY _ _ _ g hg=>have a1':((φ id).row i0 off).len=rs.length:=a1;refine⟨_,gk hu (by omega) hr.1 (by rw[a1'];exact hr.2),?_⟩;rw[Addr.add_mid];have:=ai.wC (P:=E.P) (μ:=μ) (φ:=φ) (id:=id) (i:=i0) (off:=off) (s:=aS E.P e) (j:=i.toNat) (off2:=0) hg a2;simpa using this
     ·cases h
    ·cases h
   ·cases h
  ·rename_i e id lo len hu;have key:∀(s:Nat)(et:TypeId)(es:List PV),(m id=some (.arr s et es)∨m id=some (.nM s et es))→s=aS E.P e∧0<s→af i len→∀(G:Nat→Option (List PV))(w0:bx)(μ:Ro)(φ:Nat→aF)(w:World)(y z:Value),ax E.P G w0 μ φ m w→ai E.P μ φ (.fg id lo len) y→ai E.P μ φ (.pv (.int q i)) z→∃u,(Instr.indexAt t y z).run E.P w=.ok u w∧ai E.P μ φ (.oe id (lo+i.toNat) 0) u:=by
    intro s et es hm hs hr G w0 μ φ w y z hM hy hz;have hA:aL E.P μ φ w id s et es:=by
     rcases hm with hm|hm
     ·exact hM.dI id _ hm
     ·exact(hM.dI id _ hm).1
    obtain⟨a1,a2,a3,a4,a5,a6,a7⟩:=hA;cases hz with
    |pv hz=>cases hz with
     |int Ar=>
      cases hy with
      |oh hg=>simp[af]at hr;omega
      | @fg _ _ _ zY g ad hg hl ha Tw A3=>
       have ha:=ha.resolve_right fun hh=>by have:=hr.1;have:=hr.2;omega
       subst ha;refine⟨_,gk hu (by omega) hr.1 hr.2,?_⟩;rw[Addr.add_mid];have:=ai.oe (P:=E.P) (μ:=μ) (φ:=φ) (id:=id) (i:=lo+i.toNat) (off:=0) hg;rw[a2,hs.1]at this;rw[a2,hs.1];simpa[Nat.add_mul]using this
   split at h
   ·rename_i s et es hm;split at h
    ·rename_i hs;split at h
     ·rename_i hr;exact⟨_,_,fun m2 cG R' k'=>by have:=cG (false,id) (by simp);simp only at this;simp only[dx,hu,this,hm];rw[if_pos hs,if_pos hr],h,by simp,by simp[V.has],key s et es (.inl hm) hs hr⟩
     ·cases h
    ·cases h
   ·rename_i s et es hm;split at h
    ·rename_i hs;split at h
     ·rename_i hr;exact⟨_,_,fun m2 cG R' k'=>by have:=cG (false,id) (by simp);simp only at this;simp only[dx,hu,this,hm];rw[if_pos hs,if_pos hr],h,by simp,by simp[V.has],key s et es (.inr hm) hs hr⟩
     ·cases h
    ·cases h
   ·cases h
  ·rename_i n e id off hu;split at h
   ·rename_i hr;refine⟨_,_,fun m2 _ R' k'=>by simp only[dx,hu];rw[if_pos hr],h,by simp,by simp[V.has],fun G w0 μ φ w y z hM hy hz=>?_⟩;cases hz with
    |pv hz=>cases hz with
     |int Ar=>
      cases hy with
      |op hg=>exact⟨_,mX hu (by omega) hr.1.1 hr.1.2,by rw[Addr.add_mid];exact .op hg⟩
   ·cases h
  ·rename_i n e cs hu;split at h
   ·rename_i hr;refine⟨_,_,fun m2 _ R' k'=>by simp only[dx,hu];rw[if_pos hr],h,by simp,by simp,fun G w0 μ φ w y z hM hy hz=>?_⟩;cases hz with
    |pv hz=>cases hz with
     |int Ar=>
      cases hy with
      |pv hy=>cases hy with
       |rp X h1 h2 h3=>exact⟨_,mX hu (by omega) hr.1.1 hr.1.2,by rw[Addr.add_mid];exact .pv (aj.Es _ (.rp X h1 h2 h3))⟩
   ·cases h
  ·rename_i n e id j off hu;split at h
   ·rename_i hr;refine⟨_,_,fun m2 _ R' k'=>by simp only[dx,hu];rw[if_pos hr],h,by simp,by simp[V.has],fun G w0 μ φ w y z hM hy hz=>?_⟩;cases hz with
    |pv hz=>cases hz with
     |int Ar=>
      cases hy with
      |oe hg=>exact⟨_,mX hu (by omega) hr.1.1 hr.1.2,by rw[Addr.add_mid,Nat.add_assoc];exact .oe hg⟩
   ·cases h
  ·cases h
 ·cases h
theorem mA{cs:List V}(h:oa x=some cs):(∀id,cq id cs=true→x.has id=true)∧∀(P:Program)(μ:Ro)(φ:Nat→aF)y,ai P μ φ x y→∃xs:Array Value,y=.agg xs∧cs.length=xs.size∧(∀(i:Nat)p x,cs[i]?=some p→xs[i]?=some x→ai P μ φ p x)∧(∀(i:Nat)(x:Value),xs[i]?=some x→x.oneCell'=true):=by
 unfold oa at h;split at h
 ·simp only[Option.some.injEq]at h;subst h;refine⟨fun id hid=>(by rw[Ms]at hid;cases hid),fun P μ φ y hy=>?_⟩;cases hy with
  |pv hy=>cases hy with
   |agg h1 h2 h3=>refine⟨_,rfl,by simpa using h1,fun i p x hi hx=>?_,h3⟩;simp only[List.getElem?_map,Option.map_eq_some_iff]at hi;obtain⟨q,hq,rfl⟩:=hi;exact .pv (h2 i q x hq hx)
 ·simp only[Option.some.injEq]at h;subst h;refine⟨fun id hid=>by simpa[V.has]using hid,fun P μ φ y hy=>?_⟩;cases hy with
  |agg h1 h2 h3=>exact⟨_,rfl,h1,h2,h3⟩
 ·cases h
variable{xs:Array Value}{off:Nat}
theorem wM(ha:aD P t=true):(part t xs off).run P w=.ok (.agg (xs.extract off (off+aS P t))) w:=by obtain⟨d,hu,_⟩:=A2 ha;simp[part,xY hu,ha,zd hu]
theorem wN{d:TypeDesc}{y:Value}(hu:P.underlying t=some d)(ha:aD P t=false)(hy:xs[off]?=some y):(part t xs off).run P w=.ok y w:=by simp[part,xY hu,ha,hy]
theorem Gn{cs:List V}(h:AM E t cs off k=some r):∃v,(∀(R':Type)(k':V→Option R'),AM E t cs off k'=k' v)∧k v=some r∧(∀id,v.has id=true→cq id cs=true)∧∀(μ:Ro)(φ:Nat→aF)(w:World)(xs:Array Value),cs.length=xs.size→(∀(i:Nat)p x,cs[i]?=some p→xs[i]?=some x→ai E.P μ φ p x)→(∀(i:Nat)(x:Value),xs[i]?=some x→x.oneCell'=true)→∃z,(part t xs off).run E.P w=.ok z w∧ai E.P μ φ v z:=by
 unfold AM at h;split at h
 ·rename_i ha;split at h
  ·rename_i hn;refine⟨_,fun R' k'=>by simp[AM,ha,hn],h,fun id hid=>?_,fun μ φ w xs h1 h2 h3=>⟨_,wM ha,?_⟩⟩
   ·simp only[V.has]at hid;obtain⟨v,hv,hh⟩:=cT.1 hid;exact bL (List.mem_of_mem_drop (List.mem_of_mem_take hv)) hh
   ·refine .agg (by simp;omega) (fun i p x hi hx=>?_) (fun i x hx=>?_)
    ·obtain⟨_,hi⟩:=dN hi;rw[Array.getElem?_extract]at hx;split at hx
     ·exact h2 _ p x hi hx
     ·cases hx
    ·rw[Array.getElem?_extract]at hx;split at hx
     ·exact h3 _ x hx
     ·cases hx
  ·cases h
 ·rename_i ha;have ha:aD E.P t=false:=by simpa using ha
  split at h
  ·rename_i v hv;obtain⟨u,h1,h2,h3,h4⟩:=Gl h;obtain⟨d,hu⟩:=Dd h;refine⟨u,fun R' k'=>by simp[AM,ha,hv,h1],h2,fun id hid=>bL (List.mem_of_getElem? hv) (h4 id hid),fun μ φ w xs g1 g2 g3=>?_⟩;have br:off<cs.length:=(List.getElem?_eq_some_iff.1 hv).1;have hx:xs[off]?=some xs[off]:=Array.getElem?_eq_getElem (by omega);exact⟨_,wN hu ha hx,h3 _ _ _ _ (g2 off v _ hv hx)⟩
  ·cases h
theorem N2(h:AN E s x j k=some r):∃v,(∀(R':Type)(k':V→Option R'),AN E s x j k'=k' v)∧k v=some r∧(∀id,v.has id=true→x.has id=true)∧∀(μ:Ro)(φ:Nat→aF)(w:World)(y:Value),ai E.P μ φ x y→∃z,(Instr.field s y j).run E.P w=.ok z w∧ai E.P μ φ v z:=by
 unfold AN at h;split at h
 ·rename_i o t cs ho hc;obtain⟨fs,f,hu,hf,rfl,rfl,hz⟩:=ze ho;obtain⟨v,h1,h2,h3,h4⟩:=Gn h;obtain⟨c1,c2⟩:=mA hc;refine⟨v,fun R' k'=>by simp[AN,ho,hc,h1],h2,fun id hid=>c1 id (h3 id hid),fun μ φ w y hy=>?_⟩;obtain⟨xs,rfl,g1,g2,g3⟩:=c2 _ _ _ _ hy;obtain⟨z,hz,hv⟩:=h4 μ φ w xs g1 g2 g3;exact⟨z,by simp[Instr.field,run_underlying hu,hf,Go.asAgg,hz],hv⟩
 ·cases h
theorem wf_u8(b:UInt8):(Lit.int .u8 b.toNat).wf=true:=by rw[rS];have:=b.toNat_lt;simp[IntKind.min,IntKind.max,IntKind.signed,IntKind.bits];omega
theorem N3{ix:V}(h:xR E t x ix k=some r):∃v,(∀(R':Type)(k':V→Option R'),xR E t x ix k'=k' v)∧k v=some r∧(∀id,v.has id=true→x.has id=true)∧∀(μ:Ro)(φ:Nat→aF)(w:World)(y z:Value),ai E.P μ φ x y→ai E.P μ φ ix z→∃u,(Instr.index t y z).run E.P w=.ok u w∧ai E.P μ φ v u:=by
 unfold xR at h;split at h
 ·rename_i q i;split at h
  ·rename_i s hu;obtain⟨b,hb,hk⟩:=Option.bind_eq_some_iff.1 h;refine⟨_,fun R' k'=>by simp[xR,hu,hb],hk,by simp,fun μ φ w y z hy hz=>?_⟩;cases hz with
   |pv hz=>cases hz with
    |int Ar=>
     cases hy with
     |pv hy=>cases hy with
      |str hl=>
       unfold NU at hb;split at hb
       ·rename_i h0;have br:=(List.getElem?_eq_some_iff.1 hb).1;have fQ:(⟨s.toArray⟩:ByteArray)[i.toNat]?=some b:=by
         rw[getElem?_def];have:i.toNat<(⟨s.toArray⟩:ByteArray).size:=by simpa[ByteArray.size]using br
         rw[dif_pos this];have e:=(List.getElem?_eq_some_iff.1 hb).2;simp only[Option.some.injEq];rw[←e];rfl
        refine⟨_,?_,.pv (.int (wf_u8 b))⟩;simp[Instr.index,asIntOf,run_underlying hu,h0,fQ]
       ·cases hb
  ·rename_i n et hu;split at h
   ·rename_i cs hc;split at h
    ·rename_i hn;obtain⟨v,h1,h2,h3,h4⟩:=Gn h;obtain⟨c1,c2⟩:=mA hc;refine⟨v,fun R' k'=>by simp only[xR,hu,hc];rw[if_pos hn,h1],h2,fun id hid=>c1 id (h3 id hid),fun μ φ w y z hy hz=>?_⟩;obtain⟨xs,rfl,g1,g2,g3⟩:=c2 _ _ _ _ hy;obtain⟨u,hu1,hv⟩:=h4 μ φ w xs g1 g2 g3;cases hz with
     |pv hz=>cases hz with
      |int Ar=>refine⟨u,?_,hv⟩;have hr:=hn.1;unfold af at hr;simp[Instr.index,asIntOf,run_underlying hu,hr.1,hr.2,gY (show aS E.P et≠0 by omega),hu1]
    ·cases h
   ·cases h
  ·cases h
 ·cases h
end
end Go.Ab
set_option linter.unusedVariables false
namespace Go.Ab
open Go.RowKit (Below)
section
variable {R:Type} {E:Env}
theorem A4(s:Bytes):(⟨s.toArray⟩:ByteArray).size=s.length:=by show s.toArray.size=_;simp
theorem A5{n:Nat}(h:n≤maxLen):(Lit.int .i64 (n:Int)).wf=true:=by rw[rS];simp only[maxLen]at h;simp[IntKind.min,IntKind.max,IntKind.signed,IntKind.bits];omega
variable{P:Program}{μ:Ro}{sz:Nat}{es:List PV}
theorem W0{x:Value}(h:aj P μ (.rs sz es) x):∃a cap,x=.slice a es.length cap∧es.length≤maxLen:=by
 cases h with
 |jl=>exact⟨none,0,rfl,by simp⟩
 | @FX _ cap a h=>exact⟨some a,cap,rfl,by simp⟩
 |rs X h1 h2=>exact⟨_,_,rfl,by omega⟩
variable{φ:Nat→aF}{m:Mem}{w:World}
theorem ax.arr{G:Nat→Option (List PV)}{w0:bx}(hM:ax P G w0 μ φ m w){id s:Nat}{et:TypeId}(hm:m id=some (.arr s et es)∨m id=some (.nM s et es)):aL P μ φ w id s et es:=by
 rcases hm with hm|hm
 ·exact hM.dI id _ hm
 ·exact(hM.dI id _ hm).1
theorem aL.mB{id s:Nat}{et:TypeId}(h:aL P μ φ w id s et es):es.length≤(φ id).cap∧(φ id).cap≤maxLen:=by
 obtain⟨a1,a2,a3,a4,a5,a6,a7⟩:=h;refine⟨?_,a6⟩;split at a7
 ·rw[a7.1,a7.2];simp
 ·obtain⟨c,_,_,c3,_⟩:=a7;exact c3
variable{x:V}{k:Nat→bp→Option R}{r:R}
theorem T5(h:zW m x k=some r):∃n ft,(∀m2:Mem,(∀x∈ft,m2 x.2=m x.2)→∀(R':Type)(k':Nat→bp→Option R'),zW m2 x k'=k' n ft)∧k n ft=some r∧(∀x∈ft,x.1=false)∧∀(P:Program)(G:Nat→Option (List PV))(w0:bx)(μ:Ro)(φ:Nat→aF)(w:World)(y:Value),ax P G w0 μ φ m w→ai P μ φ x y→(∀id,x.has id=true→(m id).isSome=true)→n≤maxLen∧∃a cap,y=.slice a n cap:=by
 unfold zW at h;split at h
 ·refine⟨_,_,fun m2 _ R' k'=>by simp[zW],h,by simp,fun P G w0 μ φ w y hM hy _=>?_⟩;cases hy with
  |pv hy=>obtain⟨a,cap,rfl,hl⟩:=W0 hy;exact⟨hl,_,_,rfl⟩
 ·refine⟨_,_,fun m2 _ R' k'=>by simp[zW],h,by simp,fun P G w0 μ φ w y hM hy _=>?_⟩;cases hy;exact⟨by simp,_,_,rfl⟩
 ·rename_i id lo len;have key:∀(s:Nat)(et:TypeId)(es:List PV),(m id=some (.arr s et es)∨m id=some (.nM s et es))→∀(P:Program)(G:Nat→Option (List PV))(w0:bx)(μ:Ro)(φ:Nat→aF)(w:World)(y:Value),ax P G w0 μ φ m w→ai P μ φ (.fg id lo len) y→len≤maxLen∧∃a cap,y=.slice a len cap:=by
   intro s et es hm P G w0 μ φ w y hM hy;have hA:=hM.arr hm;have hl:=hA.mB;cases hy with
   |oh=>exact⟨by simp,_,_,rfl⟩
   |fg hg IB ha=>have:=hA.1;exact⟨by omega,_,_,rfl⟩
  split at h
  ·rename_i s et es hm;exact⟨_,_,fun m2 cG R' k'=>by have:=cG (false,id) (by simp);simp only at this;simp[zW,this,hm],h,by simp,fun P G w0 μ φ w y hM hy _=>key s et es (.inl hm) P G w0 μ φ w y hM hy⟩
  ·rename_i s et es hm;exact⟨_,_,fun m2 cG R' k'=>by have:=cG (false,id) (by simp);simp only at this;simp[zW,this,hm],h,by simp,fun P G w0 μ φ w y hM hy _=>key s et es (.inr hm) P G w0 μ φ w y hM hy⟩
  ·cases h
 ·rename_i id;split at h
  ·rename_i s et es hm;refine⟨_,_,fun m2 cG R' k'=>by have:=cG (false,id) (by simp);simp only at this;simp[zW,this,hm],h,by simp,fun P G w0 μ φ w y hM hy _=>?_⟩;have hA:=hM.arr (.inl hm);have hl:=hA.mB;obtain⟨a1,a2,a3,a4,a5,a6,a7⟩:=hA;refine⟨by omega,?_⟩;cases hy with
   |pA hg=>rw[hg]at a7;simp only[a7.1];exact⟨_,_,rfl⟩
   |os hg=>rw[a1];exact⟨_,_,rfl⟩
  ·rename_i s et es hm;refine⟨_,_,fun m2 cG R' k'=>by have:=cG (false,id) (by simp);simp only at this;simp[zW,this,hm],h,by simp,fun P G w0 μ φ w y hM hy _=>?_⟩;have hA:=hM.arr (.inr hm);have hl:=hA.mB;obtain⟨a1,a2,a3,a4,a5,a6,a7⟩:=hA;refine⟨by omega,?_⟩;cases hy with
   |pA hg=>rw[hg]at a7;simp only[a7.1];exact⟨_,_,rfl⟩
   |os hg=>rw[a1];exact⟨_,_,rfl⟩
  ·rename_i s et es hm;refine⟨_,_,fun m2 cG R' k'=>by have:=cG (false,id) (by simp);simp only at this;simp[zW,this,hm],h,by simp,fun P G w0 μ φ w y hM hy _=>?_⟩;have hA:aV P μ φ w id s et es:=hM.dI id _ hm;obtain⟨a1,a2,a3,a4,a5,a6,a7⟩:=hA;have hl:es.length≤(φ id).cap:=by
    split at a7
    ·rw[a7.1];simp
    ·obtain⟨c,_,_,c3,_⟩:=a7;exact c3
   refine⟨by omega,?_⟩;cases hy with
   |pA hg=>rw[hg]at a7;simp only[a7.1];exact⟨_,_,rfl⟩
   |os hg=>rw[a1];exact⟨_,_,rfl⟩
  ·rename_i cs hm;split at h
   ·rename_i hlen;refine⟨_,_,fun m2 cG R' k'=>by have:=cG (false,id) (by simp);simp only at this;simp[zW,this,hm,hlen],h,by simp,fun P G w0 μ φ w y hM hy _=>?_⟩;obtain⟨g,c,T,hg,hh,hs,hv,qT,xZ⟩:=hM.dI id _ hm;refine⟨hlen,?_⟩;cases hy with
    |pA bV=>rw[hg]at bV;cases bV
    |os bV=>rw[xZ];exact⟨_,_,rfl⟩
   ·cases h
  ·cases h
 ·cases h
theorem T6(h:NW sz m x k=some r):∃n ft,(∀m2:Mem,(∀x∈ft,m2 x.2=m x.2)→∀(R':Type)(k':Nat→bp→Option R'),NW sz m2 x k'=k' n ft)∧k n ft=some r∧(∀x∈ft,x.1=false)∧∀(P:Program)(G:Nat→Option (List PV))(w0:bx)(μ:Ro)(φ:Nat→aF)(w:World)(y:Value),ax P G w0 μ φ m w→ai P μ φ x y→(∀id,x.has id=true→(m id).isSome=true)→n≤maxLen∧∃a cap,y=.slice a n cap:=by
 unfold NW at h;split at h
 ·rename_i id i off;split at h
  ·rename_i s et es hm;obtain⟨e,he,h⟩:=Option.bind_eq_some_iff.1 h;obtain⟨rs,hr,h⟩:=Option.bind_eq_some_iff.1 h;refine⟨_,_,fun m2 cG R' k'=>by have:=cG (false,id) (by simp);simp only at this;simp[NW,this,hm,he,hr],h,by simp,fun P G w0 μ φ w y hM hy _=>?_⟩;have hN:aV P μ φ w id s et es:=hM.dI id _ hm;obtain⟨_,_,_,_,⟨⟨AP,hA⟩,_⟩,_⟩:=hN.row he hr;have hl:=hA.mB;have a1:=hA.1;refine⟨by omega,?_⟩;have hy:=hy.IZ (ν:=μ);cases hy with
   |pA hg=>have a7:=hA.2.2.2.2.2.2;simp only[hg]at a7;simp only[a7.1];exact⟨_,_,rfl⟩
   |os hg=>rw[a1];exact⟨_,_,rfl⟩
  ·cases h
 ·rename_i cS;obtain⟨n,ft,h1,h2,h3,h4⟩:=T5 h;refine⟨n,ft,fun m2 cG R' k'=>?_,h2,h3,h4⟩;unfold NW;split
  ·exact absurd rfl (cS _ _ _)
  ·exact h1 m2 cG R' k'
theorem T7(h:NX m x k=some r):∃n ft,(∀m2:Mem,(∀x∈ft,m2 x.2=m x.2)→∀(R':Type)(k':Nat→bp→Option R'),NX m2 x k'=k' n ft)∧k n ft=some r∧(∀x∈ft,x.1=false)∧n≤maxLen∧∀(P:Program)(G:Nat→Option (List PV))(w0:bx)(μ:Ro)(φ:Nat→aF)(w:World)(y:Value)(t kt et ty:TypeId),P.underlying t=some (.map kt et)→ax P G w0 μ φ m w→ai P μ φ x y→(Builtin.len_ #[t] ty #[y]).run P w=.ok (.int .i64 n) w:=by
 unfold NX at h;split at h
 ·rename_i id;split at h
  ·rename_i kt es hm;split at h
   ·rename_i hl;refine⟨_,_,fun m2 cG R' k'=>by have:=cG (false,id) (by simp);simp only at this;simp[NX,this,hm,hl],h,by simp,hl,fun P G w0 μ φ w y t kt et ty hu hM hy=>?_⟩;cases hy with
    | @om _ g hg=>obtain⟨g',en,clock,kk,bV,hh,hs,_⟩:=hM.dI id _ hm;rw[hg]at bV;simp only[Option.some.injEq]at bV;subst bV;simp[Builtin.len_,run_underlying hu,getObj,Sem.run,hh,goInt,hs]
   ·cases h
  ·cases h
 ·refine⟨_,_,fun m2 _ R' k'=>by simp[NX],h,by simp,by simp,fun P G w0 μ φ w y t kt et ty hu hM hy=>?_⟩;cases hy with
  |pv hy=>cases hy;simp[Builtin.len_,run_underlying hu,goInt]
 ·cases h
variable{t:TypeId}
theorem T8{k:V→bp→Option R}(h:F8 E t x m k=some r):∃v ft,(∀m2:Mem,(∀x∈ft,m2 x.2=m x.2)→∀(R':Type)(k':V→bp→Option R'),F8 E t x m2 k'=k' v ft)∧k v ft=some r∧(∀x∈ft,x.1=false)∧(∀id,v.has id=false)∧∀(G:Nat→Option (List PV))(w0:bx)(μ:Ro)(φ:Nat→aF)(w:World)(y:Value)(ty:TypeId),ax E.P G w0 μ φ m w→ai E.P μ φ x y→(∀id,x.has id=true→(m id).isSome=true)→∃z,(Builtin.len_ #[t] ty #[y]).run E.P w=.ok z w∧ai E.P μ φ v z:=by
 unfold F8 at h;split at h
 ·rename_i n e hu;split at h
  ·rename_i hn;exact⟨_,_,fun m2 _ R' k'=>by simp[F8,hu,hn],h,by simp,by simp,fun G w0 μ φ w y ty hM hy _=>⟨_,by simp[Builtin.len_,run_underlying hu,goInt],.pv (.int (A5 hn))⟩⟩
  ·cases h
 ·rename_i hu;split at h
  ·refine⟨_,_,fun m2 _ R' k'=>by simp[F8,hu],h,by simp,by simp,fun G w0 μ φ w y ty hM hy _=>?_⟩;cases hy with
   |pv hy=>cases hy with
    | @str s hl=>exact⟨_,by simp[Builtin.len_,run_underlying hu,goInt,A4],.pv (.int (A5 hl))⟩
  ·cases h
 ·rename_i e hu;obtain⟨n,ft,h1,h2,h3,h4⟩:=T6 h;refine⟨_,ft,fun m2 cG R' k'=>by simp only[F8,hu];rw[h1 m2 cG],h2,h3,by simp,fun G w0 μ φ w y ty hM hy hq=>?_⟩;obtain⟨hl,a,cap,rfl⟩:=h4 _ _ _ _ _ _ _ hM hy hq;exact⟨_,by simp[Builtin.len_,run_underlying hu,goInt],.pv (.int (A5 hl))⟩
 ·rename_i kt et hu;obtain⟨n,ft,h1,h2,h3,hl,h4⟩:=T7 h;refine⟨_,ft,fun m2 cG R' k'=>by simp only[F8,hu];rw[h1 m2 cG],h2,h3,by simp,fun G w0 μ φ w y ty hM hy hq=>?_⟩;exact⟨_,h4 _ _ _ _ _ _ _ _ _ _ _ hu hM hy,.pv (.int (A5 hl))⟩
 ·cases h
theorem A6{d i:Int}{v:Option V}(h:im d v=some i):(v=none∧i=d)∨∃q,v=some (.pv (.int q i)):=by
 unfold im at h;split at h
 ·simp only[Option.some.injEq]at h;exact .inl ⟨rfl,h.symm⟩
 ·simp only[Option.some.injEq]at h;subst h;exact .inr ⟨_,rfl⟩
 ·cases h
theorem run_sliceBound{P:Program}{w:World}{q:IntKind}{i:Int}{y:Nat}{code:BoundsCode}(h0:0≤i)(h1:i≤(y:Int)):(Instr.sliceBound (.int q i) y code).run P w=.ok i.toNat w:=by simp[Instr.sliceBound,asIntOf,h0,h1]
variable{A7 mW:Option Value}
theorem jM{isS:Bool}{len cap:Nat}{l h:Int}{lo hi:Option V}(hl:im 0 lo=some l)(hh:im len hi=some h)(rl:∀v,lo=some v→∃y,A7=some y∧ai P μ φ v y)(rl0:lo=none→A7=none)(rh:∀v,hi=some v→∃y,mW=some y∧ai P μ φ v y)(rh0:hi=none→mW=none)(b0:0≤l)(b1:l≤h)(b2:h≤(len:Int))(b3:len≤cap):(Instr.sliceBounds isS len cap A7 mW none).run P w=.ok (l.toNat,h.toNat,cap) w:=by
 have e1:∃y,(mW=none∧h=len)∨(mW=some y∧∃q,y=.int q h):=by
  rcases A6 hh with⟨rfl,rfl⟩|⟨q,rfl⟩
  ·exact⟨undef,.inl ⟨rh0 rfl,rfl⟩⟩
  ·obtain⟨y,rfl,hy⟩:=rh _ rfl;cases hy with
   |pv hy=>cases hy with
    |int hw=>exact⟨_,.inr ⟨rfl,q,rfl⟩⟩
 have e2:∃y,(A7=none∧l=0)∨(A7=some y∧∃q,y=.int q l):=by
  rcases A6 hl with⟨rfl,rfl⟩|⟨q,rfl⟩
  ·exact⟨undef,.inl ⟨rl0 rfl,rfl⟩⟩
  ·obtain⟨y,rfl,hy⟩:=rl _ rfl;cases hy with
   |pv hy=>cases hy with
    |int hw=>exact⟨_,.inr ⟨rfl,q,rfl⟩⟩
 clear rl rl0 rh rh0 hl hh;obtain⟨y,⟨rfl,rfl⟩|⟨rfl,q,rfl⟩⟩:=e1<;>obtain⟨z,⟨rfl,rfl⟩|⟨rfl,q',rfl⟩⟩:=e2
 ·simp[Instr.sliceBounds]
 ·have:= @run_sliceBound P w q' l len BoundsCode.sliceB b0 (by omega);simp[Instr.sliceBounds,this]
 ·have:= @run_sliceBound P w q h cap (if isS then BoundsCode.sliceAcap else .sliceAlen) (by omega) (by omega);simp[Instr.sliceBounds,this]
 ·have h1:= @run_sliceBound P w q h cap (if isS then BoundsCode.sliceAcap else .sliceAlen) (by omega) (by omega);have h2:= @run_sliceBound P w q' l h.toNat BoundsCode.sliceB b0 (by omega);simp[Instr.sliceBounds,h1,h2]
theorem str_slice{s:Bytes}{l h:Nat}(hl:l≤h)(hh:h≤s.length):(⟨s.toArray⟩:ByteArray).extract l h=⟨((s.take h).drop l).toArray⟩:=by apply ByteArray.ext;simp only[ByteArray.data_extract];apply Array.ext';simp[List.extract_eq_take_drop,List.drop_take]
theorem Qv{x:Value}{l h:Nat}(hx:aj P μ (.rs sz es) x)(hl:l≤h)(hh:h≤es.length):∃a cap,x=.slice a es.length cap∧es.length≤cap∧aj P μ (.rs sz ((es.take h).drop l)) (.slice (if cap=l then a else a.map (·.add (l*sz))) (h-l) (cap-l)):=by
 have hlen:((es.take h).drop l).length=h-l:=by simp;omega
 cases hx with
 |jl=>
  simp at hh;subst hh;have:l=0:=by omega
  subst this;exact⟨none,0,rfl,by simp,by simpa using aj.jl⟩
 | @FX _ cap a hc=>
  simp at hh;subst hh;have:l=0:=by omega
  subst this;refine⟨some a,cap,rfl,by simp,?_⟩;have:(if cap=0 then some a else(some a).map (·.add (0*sz)))=some a:=by split<;>simp[Addr.add]
  rw[this];exact .FX hc
 | @rs _ _ b o cap X h1 h2 h3 h4 h5 h6=>
  refine⟨_,cap,rfl,h1,?_⟩;have eI:∀(i:Nat)e,((es.take h).drop l)[i]?=some e→es[l+i]?=some e:=fun i e hi=>(ek (kP hi)).2;by_cases hz:h=l
  ·have:(es.take h).drop l=[]:=List.eq_nil_of_length_eq_zero (by omega);rw[this];have Qw:h-l=0:=by omega
   rw[Qw];split
   ·exact .FX (by omega)
   ·simp only[Option.map_some];exact .FX (by omega)
  ·have hc:cap≠l:=by omega
   rw[if_neg hc];simp only[Option.map_some,Addr.add_mid];have:=aj.rs (P:=P) (μ:=μ) (sz:=sz) (es:=(es.take h).drop l) (b:=b) (o:=o+l*sz) (cap:=cap-l) (fun i j=>X (l+i) j) (by omega) (by omega) (fun i e hi=>h3 _ e (eI i e hi)) (fun i e j p hi hj=>by have:=h4 _ e j p (eI i e hi) hj;rw[Nat.add_mul]at this;rw[←this];congr 1;omega) (fun i e j p hi hj=>h5 _ e j p (eI i e hi) hj) (fun i e j p hi hj=>h6 _ e j p (eI i e hi) hj);rw[hlen]at this;exact this
theorem rT{e:TypeId}{a:Option Addr}{len cap l h:Nat}(hu:P.underlying t=some (.slice e))(hz:aS P e≠0)(hb:(Instr.sliceBounds true len cap A7 mW none).run P w=.ok (l,h,cap) w):(Instr.sliceAt t (.slice a len cap) A7 mW none).run P w=.ok (.slice (if cap=l then a else a.map (·.add (l*aS P e))) (h-l) (cap-l)) w:=by simp[Instr.sliceAt,Instr.slice,run_underlying hu,hb,gY hz]
theorem N4{lo hi mx:Option V}{k:V→bp→Option R}(h:rO E t x lo hi mx m k=some r):∃v ft,(∀m2:Mem,(∀x∈ft,m2 x.2=m x.2)→∀(R':Type)(k':V→bp→Option R'),rO E t x lo hi mx m2 k'=k' v ft)∧k v ft=some r∧(∀x∈ft,x.1=false)∧(∀id,v.has id=true→x.has id=true)∧∀(G:Nat→Option (List PV))(w0:bx)(μ:Ro)(φ:Nat→aF)(w:World)(y:Value)(A7 mW VK:Option Value),ax E.P G w0 μ φ m w→ai E.P μ φ x y→(∀v,lo=some v→∃y,A7=some y∧ai E.P μ φ v y)→(lo=none→A7=none)→(∀v,hi=some v→∃y,mW=some y∧ai E.P μ φ v y)→(hi=none→mW=none)→(∀v,mx=some v→∃y,VK=some y∧ai E.P μ φ v y)→(mx=none→VK=none)→∃z,(Instr.sliceAt t y A7 mW VK).run E.P w=.ok z w∧ai E.P μ φ v z:=by
 unfold rO at h;split at h
 ·rename_i mv;split at h
  ·rename_i e id hu;split at h
   ·rename_i s et es hm;split at h
    ·rename_i qh hh qc c;split at h
     ·rename_i hb;refine⟨_,_,fun m2 cG R' k'=>by have:=cG (false,id) (by simp);simp only at this;simp only[rO,hu,this,hm];rw[if_pos hb],h,by simp,by simp[V.has],fun G w0 μ φ w y A7 mW VK hM hy r1 r2 r3 r4 r5 r6=>?_⟩;have hA:=hM.arr (.inl hm);have hle:=hA.mB;obtain⟨a1,a2,a3,a4,a5,a6,a7⟩:=hA;obtain⟨ym,rfl,hym⟩:=r5 _ rfl;have ZM:=r2 rfl;subst ZM;cases hym with
      |pv hym=>cases hym with
       |int hwc=>
        have hB:∀len cap:Nat,len=es.length→c≤(cap:Int)→(Instr.sliceBounds true len cap none mW (some (.int qc c))).run E.P w=.ok (0,hh.toNat,c.toNat) w:=by
         intro len cap hlen mY;have h1:= @run_sliceBound E.P w qc c cap BoundsCode.slice3Acap (by omega) mY;obtain⟨yh,rfl,hyh⟩:=r3 _ rfl;cases hyh with
         |pv hyh=>cases hyh with
          |int hwh=>have h2:= @run_sliceBound E.P w qh hh c.toNat BoundsCode.slice3B (by omega) (by omega);simp[Instr.sliceBounds,h1,h2]
        have hS:∀(a:Option Addr)(len cap:Nat),len=es.length→c≤(cap:Int)→(Instr.sliceAt t (.slice a len cap) none mW (some (.int qc c))).run E.P w=.ok (.slice (if c.toNat=0 then a else a.map (·.add (0*aS E.P e))) hh.toNat c.toNat) w:=by intro a len cap hlen mY;simp[Instr.sliceAt,Instr.slice,run_underlying hu,hB len cap hlen mY,gY (show aS E.P e≠0 by omega)]
        cases hy with
        |pA hg=>
         rw[hg]at a7;have h0:es.length=0:=by rw[a7.1];rfl
         refine⟨_,hS none 0 0 h0.symm (by omega),?_⟩;have e1:hh.toNat=0:=by omega
         have e2:c.toNat=0:=by omega
         rw[e1,e2];exact .oh hg
        | @os _ g hg=>
         refine⟨_,hS _ _ _ a1 (by omega),?_⟩;have:(if c.toNat=0 then some (⟨g,0,none⟩:Addr)else(some ⟨g,0,none⟩:Option Addr).map (·.add (0*aS E.P e)))=some ⟨g,0*(φ id).sz,none⟩:=by split<;>simp[Addr.add]
         rw[this];exact .fg hg (by omega) (.inl rfl) (by omega) (by omega)
     ·cases h
    ·cases h
   ·cases h
  ·cases h
 ·split at h
  ·rename_i s hu;split at h
   ·rename_i l hh hl Mu;split at h
    ·rename_i hb;refine⟨_,_,fun m2 _ R' k'=>by simp only[rO,hu,hl,Mu];rw[if_pos hb],h,by simp,by simp,fun G w0 μ φ w y A7 mW VK hM hy r1 r2 r3 r4 _ r6=>?_⟩;have hmx:=r6 rfl;subst hmx;cases hy with
     |pv hy=>cases hy with
      |str hlen=>have hB:=jM (P:=E.P) (w:=w) (isS:=false) (cap:=s.length) hl Mu r1 r2 r3 r4 hb.1 hb.2.1 hb.2.2 (Nat.le_refl _);refine⟨_,?_,.pv (.str (s:=(s.take hh.toNat).drop l.toNat) (by simp;omega))⟩;simp only[Instr.sliceAt,Instr.slice,Sem.run_bind,run_underlying hu,Result.andThen_ok,A4,hB];simp only[Option.isSome_none,Bool.false_eq_true,if_false,Sem.run_bind,Sem.run_pure,Result.andThen_ok,hB];rw[str_slice (by omega) (by omega)]
    ·cases h
   ·cases h
  ·rename_i e sz es hu;split at h
   ·rename_i l hh hl Mu;split at h
    ·rename_i hb;refine⟨_,_,fun m2 _ R' k'=>by simp only[rO,hu,hl,Mu];rw[if_pos hb],h,by simp,by simp,fun G w0 μ φ w y A7 mW VK hM hy r1 r2 r3 r4 _ r6=>?_⟩;have hmx:=r6 rfl;subst hmx;cases hy with
     |pv hy=>obtain⟨a,cap,rfl,hc,hr⟩:=Qv (l:=l.toNat) (h:=hh.toNat) hy (by omega) (by omega);have hB:=jM (P:=E.P) (w:=w) (isS:=true) (cap:=cap) hl Mu r1 r2 r3 r4 hb.1 hb.2.1 hb.2.2.1 hc;exact⟨_,rT hu hb.2.2.2.2 hB,by rw[←hb.2.2.2.1];exact .pv hr⟩
    ·cases h
   ·cases h
  ·rename_i e id hu;have key:∀(s:Nat)(et:TypeId)(es:List PV)(l hh:Int),(m id=some (.arr s et es)∨m id=some (.nM s et es))→im 0 lo=some l→im es.length hi=some hh→(0≤l∧l≤hh∧hh≤(es.length:Int)∧s=aS E.P e)→∀(G:Nat→Option (List PV))(w0:bx)(μ:Ro)(φ:Nat→aF)(w:World)(y:Value)(A7 mW:Option Value),ax E.P G w0 μ φ m w→ai E.P μ φ (.os id) y→(∀v,lo=some v→∃y,A7=some y∧ai E.P μ φ v y)→(lo=none→A7=none)→(∀v,hi=some v→∃y,mW=some y∧ai E.P μ φ v y)→(hi=none→mW=none)→∃z,(Instr.sliceAt t y A7 mW none).run E.P w=.ok z w∧ai E.P μ φ (.fg id l.toNat (hh.toNat-l.toNat)) z:=by
    intro s et es l hh hm hl Mu hb G w0 μ φ w y A7 mW hM hy r1 r2 r3 r4;have hA:=hM.arr hm;have hle:=hA.mB;obtain⟨a1,a2,a3,a4,a5,a6,a7⟩:=hA;cases hy with
    |pA hg=>
     rw[hg]at a7;have h0:es.length=0:=by rw[a7.1];rfl
     have hB:=jM (P:=E.P) (w:=w) (isS:=true) (cap:=0) hl Mu r1 r2 r3 r4 hb.1 hb.2.1 hb.2.2.1 (by omega);rw[h0]at hB;refine⟨_,rT hu (by omega) hB,?_⟩;have e1:l.toNat=0:=by omega
     have e2:hh.toNat=0:=by omega
     rw[e1,e2];exact .oh hg
    | @os _ g hg=>
     have hB:=jM (P:=E.P) (w:=w) (isS:=true) (cap:=(φ id).cap) hl Mu r1 r2 r3 r4 hb.1 hb.2.1 hb.2.2.1 (by omega);rw[←a1]at hB;refine⟨_,rT hu (by omega) hB,?_⟩;by_cases hc:(φ id).cap=l.toNat
     ·rw[if_pos hc];by_cases h0:l.toNat=0
      ·rw[h0];exact .fg hg (by omega) (.inl (by simp)) (by omega) (by omega)
      ·exact .fg hg (by omega) (.inr ⟨hc,by omega⟩) (by omega) (by omega)
     ·rw[if_neg hc];simp only[Option.map_some,Addr.add_mid,Nat.zero_add];refine .fg hg (by omega) (.inl ?_) (by omega) (by omega);rw[a2,hb.2.2.2]
   split at h
   ·rename_i s et es hm;split at h
    ·rename_i l hh hl Mu;split at h
     ·rename_i hb;exact⟨_,_,fun m2 cG R' k'=>by have:=cG (false,id) (by simp);simp only at this;simp only[rO,hu,this,hm,hl,Mu];rw[if_pos hb],h,by simp,by simp[V.has],fun G w0 μ φ w y A7 mW VK hM hy r1 r2 r3 r4 _ r6=>by rw[r6 rfl];exact key s et es l hh (.inl hm) hl Mu hb G w0 μ φ w y A7 mW hM hy r1 r2 r3 r4⟩
     ·cases h
    ·cases h
   ·rename_i s et es hm;split at h
    ·rename_i l hh hl Mu;split at h
     ·rename_i hb;exact⟨_,_,fun m2 cG R' k'=>by have:=cG (false,id) (by simp);simp only at this;simp only[rO,hu,this,hm,hl,Mu];rw[if_pos hb],h,by simp,by simp[V.has],fun G w0 μ φ w y A7 mW VK hM hy r1 r2 r3 r4 _ r6=>by rw[r6 rfl];exact key s et es l hh (.inr hm) hl Mu hb G w0 μ φ w y A7 mW hM hy r1 r2 r3 r4⟩
     ·cases h
    ·cases h
   ·cases h
  ·cases h
end
end Go.Ab
