import Derived.Test.YtmbihgjlollbeaaGreatAbEval
import Derived.Below
import Derived.Laws.CopyRow
import Derived.Deep.MidRow
set_option linter.unusedVariables false
set_option linter.unusedSimpArgs false
namespace Go.Ab
open Go.RowKit (Below)
abbrev Ro:=Nat→Option Obj
def W6:Bool:=true
structure jS(B:Nat)(w w':World):Prop extends Below B w w' where
 drawn:W6=true→w.drawn≤w'.drawn
namespace jS
theorem refl(B:Nat)(w:World):jS B w w:=⟨Below.refl B w,fun _=>aiJ _⟩
theorem trans{B:Nat}{a b c:World}(h:jS B a b)(k:jS B b c):jS B a c:=⟨h.toBelow.trans k.toBelow,fun u=>ajq (h.drawn u) (k.drawn u)⟩
theorem mono{B B':Nat}{w w':World}(h:jS B w w')(hB:B'≤B):jS B' w w':=⟨h.toBelow.mono hB,h.drawn⟩
theorem drew{B:Nat}{a w:World}(h:jS B a w):jS B a w.drew:=⟨h.toBelow.drew,fun u=>Nat.le_succ_of_le (h.drawn u)⟩
theorem heap_alloc(w:World)(o:Obj)(k:Nat)(h:k<w.heap.size):(w.alloc o).heap[k]?=w.heap[k]?:=Below.heap_alloc w o k h
theorem alloc{B:Nat}{a w:World}(h:jS B a w)(hB:B≤w.heap.size)(o:Obj):jS B a (w.alloc o):=⟨h.toBelow.alloc hB o,h.drawn⟩
end jS
def Jmp.code:Jmp→Code
 |.ret=>.ret
 |.exit id=>.exit id
def Mk.obj(rc:Loop):Mk→Loop
 |.ready=>{rc with state:=.ready,pending:=none}
 |.busy=>{rc with state:=.busy,pending:=none}
 |.done j=>{rc with state:=.done,pending:=some j.code}
def cellAt(μ:Ro)(b o:Nat):Option Value:=match μ b with|some (.cells c _ _)=>c[o]?|_=>none
def zh(f:FuncId)(xs:Array Value):Value:=if f<CY then .func (.func f) #[] xs else .func (.func (f-CY)) xs #[]
variable{xs:Array Value}
theorem pM{f:FuncId}(h:Nat.blt f CY=true):zh f xs=.func (.func f) #[] xs:=AI (by rwa[ajv]at h)
theorem JK{f:FuncId}(h:Nat.blt f CY=false):zh f xs=.func (.func (f-CY)) xs #[]:=By (by rw[←ajz,ajv]at h;omega)
theorem pN(f:FuncId)(xs:Array Value):∃g a b,zh f xs=.func (.func g) a b:=by
 unfold zh;split
 ·simp
 simp
theorem FL(f:FuncId)(xs:Array Value):(zh f xs).oneCell'=true:=by obtain⟨g,a,b,h⟩:=pN f xs;rw[h];rfl
inductive ah(P:Program)(μ:Ro):PV→Value→Prop
 |int {k:IntKind} {n:Int}:(Lit.int k n).wf=true→ah P μ (.int k n) (.int k n)
 |bool {b:Bool}:ah P μ (.bool b) (.bool b)
 |str {s:Bytes}:s.length≤maxLen→ah P μ (.str s) (.string ⟨s.toArray⟩)
 |agg {cs:List PV} {xs:Array Value}:cs.length=xs.size→(∀(i:Nat)p x,cs[i]?=some p→xs[i]?=some x→ah P μ p x)→(∀(i:Nat)(x:Value),xs[i]?=some x→x.oneCell'=true)→ah P μ (.agg cs) (.agg xs)
 |aP {cs:List PV} {xs:Array Value}:cs.length=xs.size→(∀(i:Nat)p x,cs[i]?=some p→xs[i]?=some x→ah P μ p x)→ah P μ (.aP cs) (.tuple xs)
 |oW:ah P μ .oW (.pointer none)
 |rp {cs:List PV} {b o:Nat} (X:Nat→Value):(∀(i:Nat)p,cs[i]?=some p→cellAt μ b (o+i)=some (X i))→(∀(i:Nat)p,cs[i]?=some p→ah P μ p (X i))→(∀i:Nat,i<cs.length→(X i).oneCell'=true)→ah P μ (.rp cs) (.pointer (some ⟨b,o,none⟩))
 |jL {sz:Nat}:ah P μ (.rs sz []) (.slice none 0 0)
 |Jm {sz cap:Nat} {a:Addr}:cap≤maxLen→ah P μ (.rs sz []) (.slice (some a) 0 cap)
 |rs {sz:Nat} {es:List PV} {b o cap:Nat} (X:Nat→Nat→Value):es.length≤cap→cap≤maxLen→(∀(i:Nat)e,es[i]?=some e→e.cells.length=sz)→(∀(i:Nat)e(j:Nat)p,es[i]?=some e→e.cells[j]?=some p→cellAt μ b (o+i*sz+j)=some (X i j))→(∀(i:Nat)e(j:Nat)p,es[i]?=some e→e.cells[j]?=some p→ah P μ p (X i j))→(∀(i:Nat)e(j:Nat)p,es[i]?=some e→e.cells[j]?=some p→(X i j).oneCell'=true)→ah P μ (.rs sz es) (.slice (some ⟨b,o,none⟩) es.length cap)
 |sA:ah P μ .sA (.map none)
 |rm {kt:TypeId} {ks vs:List PV} {b clock:Nat} {en:Array MapEntry} {kk:List Kd}:μ b=some (.map en clock)→en.size=ks.length→vs.length=ks.length→re P kt=some kk→(∀(i:Nat)k,ks[i]?=some k→uq P kt kk k=true)→(∀(i:Nat)k e,ks[i]?=some k→en[i]?=some e→ah P μ k e.key)→(∀(i:Nat)v e,vs[i]?=some v→en[i]?=some e→ah P μ v e.val)→ah P μ (.rm kt ks vs) (.map (some b))
 |Av:ah P μ .Av .nilFunc
 |fn {f:FuncId} {cs:List PV} {xs:Array Value}:cs.length=xs.size→(∀(i:Nat)p x,cs[i]?=some p→xs[i]?=some x→ah P μ p x)→ah P μ (.fn f cs) (zh f xs)
 |T7:ah P μ (.WG false) .nilIface
 |W7 {t:TypeId} {x:Value}:ah P μ (.WG true) (.iface t x)
 |bad {x:Value}:ah P μ .bad x
structure xm(P:Program)(μ:Ro)(g:Nat)(cs:List PV):Prop where
 rep:ah P μ (.rp cs) (.pointer (some ⟨g,0,none⟩))
 size:∃c T z,μ g=some (.cells c T z)∧c.size=cs.length
structure BI where
 g:Option Nat
 cap:Nat
 len:Nat
 sz:Nat
 deriving Inhabited
structure aA extends BI where
 row:Nat→Nat→BI:=fun _ _=>default
 deriving Inhabited
abbrev Cn(g:Option Nat)(cap len sz:Nat):aA:={g,cap,len,sz}
def BI.up(p:BI):aA:={toBI:=p}
inductive ag(P:Program)(μ:Ro)(φ:Nat→aA):V→Value→Prop
 |pv {p:PV} {x:Value}:ah P μ p x→ag P μ φ (.pv p) x
 |gy:ag P μ φ .gy (.slice none 0 0)
 |op {id off g:Nat}:(φ id).g=some g→ag P μ φ (.op id off) (.pointer (some ⟨g,off,none⟩))
 |oe {id i off g:Nat}:(φ id).g=some g→ag P μ φ (.oe id i off) (.pointer (some ⟨g,i*(φ id).sz+off,none⟩))
 |qY {id:Nat}:(φ id).g=none→ag P μ φ (.os id) (.slice none 0 0)
 |os {id g:Nat}:(φ id).g=some g→ag P μ φ (.os id) (.slice (some ⟨g,0,none⟩) (φ id).len (φ id).cap)
 |pL {id:Nat}:(φ id).g=none→ag P μ φ (.fq id 0 0) (.slice none 0 0)
 |fq {id lo len cap g:Nat} {a:Addr}:(φ id).g=some g→lo+len≤(φ id).len→(a=⟨g,lo*(φ id).sz,none⟩∨((φ id).cap=lo∧0<lo))→len≤cap→lo+cap≤(φ id).cap→ag P μ φ (.fq id lo len) (.slice (some a) len cap)
 |G8 {id i off:Nat}:((φ id).row i off).g=none→ag P μ φ (.vg id i off) (.slice none 0 0)
 |vg {id i off g:Nat}:((φ id).row i off).g=some g→ag P μ φ (.vg id i off) (.slice (some ⟨g,0,none⟩) ((φ id).row i off).len ((φ id).row i off).cap)
 |y7 {id i off s j off2 g:Nat}:((φ id).row i off).g=some g→((φ id).row i off).sz=s→ag P μ φ (.y7 id i off s j off2) (.pointer (some ⟨g,j*s+off2,none⟩))
 |om {id g:Nat}:(φ id).g=some g→ag P μ φ (.om id) (.map (some g))
 |yl {id g:Nat}:(φ id).g=some g→ag P μ φ (.yl id) (.func (.yield g) #[] #[])
 |it {id g:Nat}:(φ id).g=some g→ag P μ φ (.it id) (.pointer (some ⟨g,0,none⟩))
 |fn {f:FuncId} {cs:List V} {xs:Array Value}:cs.length=xs.size→(∀(i:Nat)p x,cs[i]?=some p→xs[i]?=some x→ag P μ φ p x)→ag P μ φ (.fn f cs) (zh f xs)
 |agg {cs:List V} {xs:Array Value}:cs.length=xs.size→(∀(i:Nat)p x,cs[i]?=some p→xs[i]?=some x→ag P μ φ p x)→(∀(i:Nat)(x:Value),xs[i]?=some x→x.oneCell'=true)→ag P μ φ (.agg cs) (.agg xs)
 |aP {cs:List V} {xs:Array Value}:cs.length=xs.size→(∀(i:Nat)p x,cs[i]?=some p→xs[i]?=some x→ag P μ φ p x)→ag P μ φ (.aP cs) (.tuple xs)
 |top {x:Value}:ag P μ φ .top x
def aH(P:Program)(μ:Ro)(φ:Nat→aA)(w:World)(id sz:Nat)(et:TypeId)(es:List PV):Prop:=
 (φ id).len=es.length∧(φ id).sz=sz∧sz=aQ P et∧0<sz∧(∀(i:Nat)e,es[i]?=some e→e.cells.length=sz)∧(φ id).cap≤maxLen∧
 match(φ id).g with
 |none=>es=[]∧(φ id).cap=0
 |some g=>∃(c:Array Value)(T:TypeId),w.heap[g]?=some (.cells c T (0,0))∧(φ id).cap*sz≤c.size∧es.length≤(φ id).cap∧(∀(i:Nat)e(j:Nat)p x,es[i]?=some e→e.cells[j]?=some p→c[i*sz+j]?=some x→ah P μ p x)∧(∀(i:Nat)(x:Value),i<es.length*sz→c[i]?=some x→x.oneCell'=true)
def bF.rowAt:bF→Nat→Nat→Bool
 |.nest _ _ es,i,off=>match es[i]? with
  |some e=>match e.cells[off]? with
   |some p=>p.isRow
   |none=>false
  |none=>false
 |.eV _ _ es,i,0=>match es[i]? with
  |some x=>x.2.isRow
  |none=>false
 |_,_,_=>false
def ez(P:Program)(μ:Ro)(R:BI)(w:World)(s:Nat)(rs:List PV)(x:Value):Prop:=(∃et,aH P μ (fun _=>R.up) w 0 s et rs)∧ag P μ (fun _=>R.up) (.os 0) x
def dV(P:Program)(μ:Ro)(R:BI)(w:World)(p:PV)(x:Value):Prop:=match p with
 |.oX s rs=>ez P μ R w s rs x
 |p=>ah P μ p x
def aW(P:Program)(μ:Ro)(φ:Nat→aA)(w:World)(id sz:Nat)(et:TypeId)(es:List PV):Prop:=
 (φ id).len=es.length∧(φ id).sz=sz∧sz=aQ P et∧0<sz∧(∀(i:Nat)e,es[i]?=some e→e.cells.length=sz)∧(φ id).cap≤maxLen∧
 match(φ id).g with
 |none=>es=[]∧(φ id).cap=0
 |some g=>∃(c:Array Value)(T:TypeId),w.heap[g]?=some (.cells c T (0,0))∧(φ id).cap*sz≤c.size∧es.length≤(φ id).cap∧(∀(i:Nat)e(j:Nat)p x,es[i]?=some e→e.cells[j]?=some p→c[i*sz+j]?=some x→dV P μ ((φ id).row i j) w p x)∧(∀(i:Nat)(x:Value),i<es.length*sz→c[i]?=some x→x.oneCell'=true)
def kL(en:Array MapEntry)(clock:Nat):Prop:=∀(i:Nat)e,en[i]?=some e→e.born<clock∧∀(j:Nat)e',en[j]?=some e'→e'.born=e.born→j=i
def kh(en:Array MapEntry)(seen:Array Nat):List MapEntry:=en.toList.filter fun e=> !seen.contains e.born
def gf(P:Program)(μ:Ro)(φ:Nat→aA)(w:World)(id:Nat):bF→Prop
 |.box cs=>∃(g:Nat)(c:Array Value)(T:TypeId),(φ id).g=some g∧w.heap[g]?=some (.cells c T (0,0))∧c.size=cs.length∧(∀(i:Nat)v x,cs[i]?=some v→c[i]?=some x→ag P μ φ v x)∧(∀(i:Nat)(x:Value),c[i]?=some x→x.oneCell'=true)∧(φ id).len=cs.length
 |.arr sz et es=>aH P μ φ w id sz et es
 |.pt sz et es=>aH P μ φ w id sz et es∧∀g,(φ id).g=some g→(μ g).isSome
 |.map kt es=>∃(g:Nat)(en:Array MapEntry)(clock:Nat)(kk:List Kd),(φ id).g=some g∧w.heap[g]?=some (.map en clock)∧en.size=es.length∧re P kt=some kk∧(∀(i:Nat)k v,es[i]?=some (k,v)→uq P kt kk k=true)∧kL en clock∧(∀(i:Nat)k v e,es[i]?=some (k,v)→en[i]?=some e→ah P μ k e.key∧ah P μ v e.val)
 |.nest sz et es=>aW P μ φ w id sz et es
 |.eV kt e0 es=>∃(g:Nat)(en:Array MapEntry)(clock:Nat)(kk:List Kd),(φ id).g=some g∧w.heap[g]?=some (.map en clock)∧en.size=es.length∧re P kt=some kk∧(∀(i:Nat)k v,es[i]?=some (k,v)→uq P kt kk k=true)∧kL en clock∧(∀(i:Nat)k v e,es[i]?=some (k,v)→en[i]?=some e→ah P μ k e.key∧(match v with
  |.oX s rs=>aH P μ (fun _=>((φ id).row i 0).up) w 0 s e0 rs∧ag P μ (fun _=>((φ id).row i 0).up) (.os 0) e.val
  |v=>ah P μ v e.val))
 |.iter t es cur=>∃(g mg:Nat)(en:Array MapEntry)(clock:Nat)(seen:Array Nat),(φ id).g=some g∧w.heap[g]?=some (.mapIter (some mg) clock seen clock)∧μ mg=some (.map en clock)∧kL en clock∧(kh en seen).length=es.length∧(∀(i:Nat)k v e,es[i]?=some (k,v)→(kh en seen)[i]?=some e→ah P μ k e.key∧ah P μ v e.val)∧∀k v,cur=some (k,v)→∃(i:Nat)(e:MapEntry),en[i]?=some e∧seen.back? =some e.born∧ah P μ k e.key∧ah P μ v e.val
 |.loop st=>∃(g:Nat)(rc:Loop),(φ id).g=some g∧w.heap[g]?=some (.loop (st.obj rc))
def bF.iO:bF→Bool
 |.pt .. =>false
 |_=>true
structure bw where
 w:World
 mu:Ro
 sv:Nat→Value
 dy:Ro:=fun _=>none
 lD:Ro:=fun _=>none
 rc:Nat→Option (Nat×Loop):=fun _=>none
abbrev bw.heap(B:bw):Array Obj:=B.w.heap
def bF.owns(b:bF)(p:aA)(g:Nat):Prop:=p.g=some g∨∃i off,b.rowAt i off=true∧(p.row i off).g=some g
def bF.apart(b:bF)(p:aA):Prop:=∀i off g,b.rowAt i off=true→(p.row i off).g=some g→p.g≠some g∧∀i' rP,b.rowAt i' rP=true→(p.row i' rP).g=some g→i'=i∧rP=off
structure av(P:Program)(G:Nat→Option (List PV))(w0:bw)(μ:Ro)(φ:Nat→aA)(m:Mem)(w:World):Prop where
 below:jS w0.heap.size w0.w w
 ro:∀b o,μ b=some o→w.heap[b]?=some o
 aF:∀g cs,G g=some cs→xm P μ g cs
 dw:∀id b,m id=some b→gf P μ φ w id b
 own:∀id b g,m id=some b→b.owns (φ id) g→w0.heap.size≤g∧(b.iO=true→μ g=none)
 inj:∀Tv id2 b1 b2 g,m Tv=some b1→m id2=some b2→b1.owns (φ Tv) g→b2.owns (φ id2) g→Tv=id2
 apart:∀id b,m id=some b→b.apart (φ id)
 fu:∀j cs id,m j=some (.box cs)→cd id cs=true→(m id).isSome=true
 base:∀b o,μ b=some o→b<w0.heap.size→w0.mu b=some o
 dy:∀b o,w0.dy b=some o→μ b=some o
 BH:∀id st,m id=some (.loop st)→∃g rc,(φ id).g=some g∧w0.rc id=some (g,rc)∧w.heap[g]?=some (.loop (st.obj rc))
def an(nt:Nat)(w0:bw)(a:Act):Nat→Value:=fun t=>if t<nt then a.tmps.getD t undef else w0.sv t
theorem pK{nt:Nat}{w0:bw}{a:Act}{t:Nat}(h:t<nt):an nt w0 a t=a.tmps.getD t undef:=AI h
def Marks(B:Nat)(lD μ:Ro)(ds:List Deferred):Prop:=∃Ds:List Nat,ds=Ds.map (fun D=>{target:=.collected D,args:= #[]})∧Ds.Nodup∧∀D∈Ds,B≤D∧lD D=none∧μ D=some (.deferred (some []))
theorem Marks.nil(B:Nat)(lD μ:Ro):Marks B lD μ []:=⟨[],rfl,.nil,by simp⟩
theorem Marks.mono{B:Nat}{lD μ μ':Ro}(h:∀b o,μ b=some o→μ' b=some o){ds:List Deferred}:Marks B lD μ ds→Marks B lD μ' ds
 |⟨Ds,e,hn,hD⟩=>⟨Ds,e,hn,fun D hd=>⟨(hD D hd).1,(hD D hd).2.1,h _ _ (hD D hd).2.2⟩⟩
structure Rel(P:Program)(G:Nat→Option (List PV))(nt:Nat)(w0:bw)(μ:Ro)(φ:Nat→aA)(f:Fr)(m:Mem)(a:Act)(w:World):Prop extends av P G w0 μ φ m w where
 size:a.tmps.size=nt
 defers:Marks w0.heap.size w0.lD μ a.defers
 lD:∀b o,w0.lD b=some o→w0.dy b=some o
 fr:∀t,ag P μ φ (f t) (an nt w0 a t)
 live:∀t id,(f t).has id=true→(m id).isSome=true
section
variable {P:Program} {μ μ':Ro} {φ φ':Nat→aA}
variable{x:Value}
theorem BJ(h:∀b o,μ b=some o→μ' b=some o){b o:Nat}(hx:cellAt μ b o=some x):cellAt μ' b o=some x:=by grind [cellAt]
variable{p:PV}
theorem ah.mono(h:∀b o,μ b=some o→μ' b=some o)(hp:ah P μ p x):ah P μ' p x:=by
 induction hp with
 |int h=>exact .int h
 |bool=>exact .bool
 |str h=>exact .str h
 |agg h1 _ h3 ih=>exact .agg h1 ih h3
 |aP h1 _ ih=>exact .aP h1 ih
 |oW=>exact .oW
 |rp X h1 _ h3 ih=>exact .rp X (fun i p hi=>BJ h (h1 i p hi)) ih h3
 |jL=>exact .jL
 |Jm h=>exact .Jm h
 |rs X h1 h2 h3 h4 _ h6 ih=>exact .rs X h1 h2 h3 (fun i e j p hi hj=>BJ h (h4 i e j p hi hj)) ih h6
 |sA=>exact .sA
 |rm h1 h2 h3 h4 h5 _ _ ih1 ih2=>exact .rm (h _ _ h1) h2 h3 h4 h5 ih1 ih2
 |Av=>exact .Av
 |fn h1 _ ih=>exact .fn h1 ih
 |T7=>exact .T7
 |W7=>exact .W7
 |bad=>exact .bad
theorem xm.mono(h:∀b o,μ b=some o→μ' b=some o){g:Nat}{cs:List PV}(hv:xm P μ g cs):xm P μ' g cs:=⟨hv.rep.mono h,let⟨c,T,z,h1,h2⟩:=hv.size;⟨c,T,z,h _ _ h1,h2⟩⟩
theorem bH{id:Nat}{v:V}:∀{cs:List V},v∈cs→v.has id=true→cd id cs=true
 |c::r,hm,hv=>by
  rcases abX.1 hm with rfl|hm
  ·simp[cd,hv]
  ·simp[cd,bH hm hv]
theorem cC{id:Nat}:∀{cs:List V},cd id cs=true↔∃v∈cs,v.has id=true
 |[]=>by simp[cd]
 |c::r=>by simp[cd,cC (cs:=r)]
theorem wL{id:Nat}{v:V}:∀{cs:List V},v∈cs→v.vh id=true→y8 id cs=true
 |c::r,hm,hv=>by
  rcases abX.1 hm with rfl|hm
  ·simp[y8,hv]
  ·simp[y8,wL hm hv]
theorem ag.mono(h:∀b o,μ b=some o→μ' b=some o){v:V}{x:Value}(hv:ag P μ φ v x)(hφ:∀id,v.has id=true→φ' id=φ id):ag P μ' φ' v x:=by
 induction hv with
 |pv hp=>exact .pv (hp.mono h)
 |gy=>exact .gy
 |op hg=>exact .op (by simp_all[V.has])
 | @oe id i off g hg=>have e:=hφ id (by simp[V.has]);have:=ag.oe (P:=P) (μ:=μ') (φ:=φ') (id:=id) (i:=i) (off:=off) (g:=g) (by rw[e];omega);simp_all
 | @qY id hg=>exact .qY (by rw[hφ id (by simp[V.has])];omega)
 | @os id g hg=>have e:=hφ id (by simp[V.has]);have:=ag.os (P:=P) (μ:=μ') (φ:=φ') (id:=id) (g:=g) (by rw[e];omega);simp_all
 | @pL id hg=>exact .pL (by rw[hφ id (by simp[V.has])];omega)
 | @fq id lo len cap g a hg hl ha hc Z4=>have e:=hφ id (by simp[V.has]);exact ag.fq (P:=P) (μ:=μ') (φ:=φ') (id:=id) (lo:=lo) (len:=len) (cap:=cap) (g:=g) (a:=a) (by rw[e];omega) (by rw[e];omega) (by rw[e];omega) hc (by rw[e];omega)
 | @G8 id i off hg=>exact .G8 (by rw[hφ id (by simp[V.has])];omega)
 | @vg id i off g hg=>have e:=hφ id (by simp[V.has]);have:=ag.vg (P:=P) (μ:=μ') (φ:=φ') (id:=id) (i:=i) (off:=off) (g:=g) (by rw[e];omega);simp_all
 | @y7 id i off s j off2 g hg hs=>have e:=hφ id (by simp[V.has]);exact .y7 (by rw[e];omega) (by rw[e];omega)
 | @om id g hg=>exact .om (by rw[hφ id (by simp[V.has])];omega)
 | @yl id g hg=>exact .yl (by rw[hφ id (by simp[V.has])];omega)
 | @it id g hg=>exact .it (by rw[hφ id (by simp[V.has])];omega)
 |fn h1 _ ih=>exact .fn h1 (fun i p x hi hx=>ih i p x hi hx (fun id hid=>hφ id (by simp only[V.has];exact bH (abV hi) hid)))
 |agg h1 _ h3 ih=>exact .agg h1 (fun i p x hi hx=>ih i p x hi hx (fun id hid=>hφ id (by simp only[V.has];exact bH (abV hi) hid))) h3
 |aP h1 _ ih=>exact .aP h1 (fun i p x hi hx=>ih i p x hi hx (fun id hid=>hφ id (by simp only[V.has];exact bH (abV hi) hid)))
 |top=>exact .top
variable{v:V}
theorem ag.YV(h:∀b o,μ b=some o→μ' b=some o)(hv:ag P μ φ v x)(hφ:∀id,v.has id=true→(φ' id).toBI=(φ id).toBI∧(v.vh id=true→φ' id=φ id)):ag P μ' φ' v x:=by
 induction hv with
 |pv hp=>exact .pv (hp.mono h)
 |gy=>exact .gy
 |op hg=>exact .op (by simp_all[V.has])
 | @oe id i off g hg=>have e:=(hφ id (by simp[V.has])).1;have:=ag.oe (P:=P) (μ:=μ') (φ:=φ') (id:=id) (i:=i) (off:=off) (g:=g) (by rw[e];omega);simp_all
 | @qY id hg=>exact .qY (by rw[(hφ id (by simp[V.has])).1];omega)
 | @os id g hg=>have e:=(hφ id (by simp[V.has])).1;have:=ag.os (P:=P) (μ:=μ') (φ:=φ') (id:=id) (g:=g) (by rw[e];omega);simp_all
 | @pL id hg=>exact .pL (by rw[(hφ id (by simp[V.has])).1];omega)
 | @fq id lo len cap g a hg hl ha hc Z4=>have e:=(hφ id (by simp[V.has])).1;exact ag.fq (P:=P) (μ:=μ') (φ:=φ') (id:=id) (lo:=lo) (len:=len) (cap:=cap) (g:=g) (a:=a) (by rw[e];omega) (by rw[e];omega) (by rw[e];omega) hc (by rw[e];omega)
 | @G8 id i off hg=>exact .G8 (by rw[(hφ id (by simp[V.has])).2 (by simp[V.vh])];omega)
 | @vg id i off g hg=>have e:=(hφ id (by simp[V.has])).2 (by simp[V.vh]);have:=ag.vg (P:=P) (μ:=μ') (φ:=φ') (id:=id) (i:=i) (off:=off) (g:=g) (by rw[e];omega);simp_all
 | @y7 id i off s j off2 g hg hs=>have e:=(hφ id (by simp[V.has])).2 (by simp[V.vh]);exact .y7 (by rw[e];omega) (by rw[e];omega)
 | @om id g hg=>exact .om (by rw[(hφ id (by simp[V.has])).1];omega)
 | @yl id g hg=>exact .yl (by rw[(hφ id (by simp[V.has])).1];omega)
 | @it id g hg=>exact .it (by rw[(hφ id (by simp[V.has])).1];omega)
 |fn h1 _ ih=>exact .fn h1 (fun i p x hi hx=>ih i p x hi hx (fun id hid=>⟨(hφ id (by simp only[V.has];exact bH (abV hi) hid)).1,fun h2=>(hφ id (by simp only[V.has];exact bH (abV hi) hid)).2 (by simp only[V.vh];exact wL (abV hi) h2)⟩))
 |agg h1 _ h3 ih=>exact .agg h1 (fun i p x hi hx=>ih i p x hi hx (fun id hid=>⟨(hφ id (by simp only[V.has];exact bH (abV hi) hid)).1,fun h2=>(hφ id (by simp only[V.has];exact bH (abV hi) hid)).2 (by simp only[V.vh];exact wL (abV hi) h2)⟩)) h3
 |aP h1 _ ih=>exact .aP h1 (fun i p x hi hx=>ih i p x hi hx (fun id hid=>⟨(hφ id (by simp only[V.has];exact bH (abV hi) hid)).1,fun h2=>(hφ id (by simp only[V.has];exact bH (abV hi) hid)).2 (by simp only[V.vh];exact wL (abV hi) h2)⟩))
 |top=>exact .top
theorem ag.xn(h:∀b o,μ b=some o→μ' b=some o)(hv:ag P μ φ v x):ag P μ' φ v x:=hv.mono h fun _ _=>rfl
theorem ag.kill(id:Nat)(hv:ag P μ φ v x):ag P μ φ (rf id v) x:=by
 unfold rf;cases v.has id<;>simp
 ·omega
 ·exact .top
theorem ag.xo(id:Nat)(hv:ag P μ φ v x):ag P μ φ (mS id v) x:=by
 unfold mS;cases v.vh id<;>simp
 ·omega
 ·exact .top
theorem wM{id j:Nat}(h:(mS id v).has j=true):v.has j=true∧(mS id v).vh id=false:=by grind [mS,id,V.has]
theorem dV.pure{R:BI}{w:World}(h:ah P μ p x):dV P μ R w p x:=by
 unfold dV;split
 ·cases h
 omega
theorem dV.Qr{R:BI}{w:World}(h:dV P μ R w p x)(hp:p.isRow=false):ah P μ p x:=by
 unfold dV at h;split at h
 ·cases hp
 omega
theorem ah.CI(h:ah P μ p x):p.isRow=false:=by cases h<;>rfl
theorem vt{id j:Nat}(h:(rf id v).has j=true):v.has j=true∧j≠id:=by grind [rf,id,V.has]
end
section
variable {P:Program} {G:Nat→Option (List PV)} {w0:bw} {μ:Ro} {φ:Nat→aA} {f:Fr} {m:Mem} {w:World}
@[simp] theorem agk(p:PV)(id:Nat):(V.pv p).has id=false:=by simp[V.has]
@[simp] theorem agh(id:Nat):V.top.has id=false:=by simp[V.has]
@[simp] theorem ack(id:Nat):V.gy.has id=false:=by simp[V.has]
theorem Qs(cs:List PV)(id:Nat):cd id (cs.map .pv)=false:=by
 induction cs with
 |nil=>rfl
 |cons c r ih=>simp[cd,ih]
theorem lP(k:IntKind)(n:Int):(Lit.int k n).wf=true↔k.min≤n∧n≤k.max:=by simp[Lit.wf]
theorem wf_wrap(k:IntKind)(n:Int):(Lit.int k (k.wrap n)).wf=true:=by rw[lP];cases k<;>simp only[IntKind.wrap,IntKind.min,IntKind.max,IntKind.signed,IntKind.bits]<;>simp<;>(try split)<;>omega
theorem ah.one{p:PV}{x:Value}(h:ah P μ p x)(h1:∀cs,p≠.agg cs)(h2:∀cs,p≠.aP cs)(h3:p≠.bad):x.oneCell'=true:=by cases h<;>first|rfl|exact FL _ _|exact absurd rfl (h1 _)|exact absurd rfl (h2 _)|exact absurd rfl h3
theorem De(c:Value):ag P μ φ (Aw c) c:=by
 unfold Aw;split
 ·split
  ·exact .pv (.int (by assumption))
  ·exact .top
 ·exact .pv .bool
 ·rename_i s;split
  ·exact .pv (.str (by assumption))
  ·exact .top
 ·exact .pv .oW
 ·exact .gy
 ·exact .pv .sA
 ·exact .pv .Av
 ·exact .pv .T7
 ·exact .top
theorem Df(c:Value)(id:Nat):(Aw c).has id=false:=by unfold Aw;split<;>(try split)<;>simp
theorem FM(c:Value)(id:Nat):(FE c).has id=false:=by
 unfold FE;split
 ·rename_i cs;split
  ·simp only[V.has];rw[Bool.eq_false_iff];intro h;obtain⟨v,hv,hh⟩:=cC.1 h;obtain⟨x,_,rfl⟩:=aiR.1 hv;rw[Df]at hh;cases hh
  ·simp
 ·exact Df _ _
theorem sH(c:Value):ag P μ φ (FE c) c:=by
 unfold FE;split
 ·rename_i cs;split
  ·rename_i hc;refine .agg (by simp) (fun i p x hi hx=>?_) (fun i x hx=>?_)
   ·simp only[GP,aiM,hx,aff,cN]at hi;subst hi;exact De x
   ·rw[ajh]at hc;have:=hc x (by rw[←aiM]at hx;exact abV hx);cases x<;>first|rfl|(simp at this)
  ·exact .top
 ·exact De _
end
section
variable {R:Type} {E:Env} {w0:bw} {μ:Ro} {φ:Nat→aA} {f:Fr} {m:Mem} {a:Act} {w:World}
theorem ai(h:Rel E.P E.aF E.fn.ntmps w0 μ φ f m a w)(x:Operand):ag E.P μ φ (bA E f x) (a.eval x)∧∀id,(bA E f x).has id=true→(m id).isSome=true:=by
 cases x with
 |tmp t=>
  simp only[bA];cases e:Nat.blt t E.fn.ntmps with
  |true=>
   have bT:t<E.fn.ntmps:=by rwa[ajv]at e
   have:=h.fr t;rw[pK bT]at this;exact⟨this,h.live t⟩
  |false=>exact⟨.top,fun id hid=>by cases hid⟩
 |const c=>exact⟨sH c,fun id hid=>by simp only[bA]at hid;rw[FM]at hid;cases hid⟩
 |global g=>
  simp only[bA];cases hg:E.aF g with
  |none=>exact⟨.top,by simp⟩
  |some cs=>exact⟨.pv (h.aF g cs hg).rep,by simp⟩
 |func g=>
  simp only[bA];cases e:Nat.blt g CY with
  |true=>refine⟨?_,by simp[V.has,cd]⟩;have:=ag.fn (P:=E.P) (μ:=μ) (φ:=φ) (f:=g) (cs:=[]) (xs:= #[]) (by simp) (by simp);rw[pM e]at this;exact this
  |false=>exact⟨.top,by simp⟩
variable{p:PV}
theorem nr{sz j:Nat}{q:PV}(h:(aJ sz p)[j]?=some q):j<sz∧q=cell p j:=by
 unfold aJ at h;have key:∀(n o j:Nat),(dL p o n)[j]?=some q→j<n∧q=cell p (o+j):=by
  intro n;induction n with
  |zero=>intro o j hj;simp[dL]at hj
  |succ n ih=>
   intro o j hj;cases j with
   |zero=>simp[dL]at hj;exact⟨by omega,by simp[hj]⟩
   |succ j=>simp only[dL,aj2]at hj;obtain⟨h1,h2⟩:=ih (o+1) j hj;exact⟨by omega,by rw[h2];congr 1;omega⟩
 have:=key sz 0 j h;simpa using this
theorem bd(sz:Nat)(p:PV):(aJ sz p).length=sz:=by
 unfold aJ;have:∀n o,(dL p o n).length=n:=by
  intro n;induction n with
  |zero=>intro o;rfl
  |succ n ih=>intro o;simp[dL,ih]
 exact this _ _
theorem fa{sz:Nat}(h:p.cells.length=sz):aJ sz p=p.cells:=by
 apply aiY;intro j;by_cases hj:j<sz
 ·have h1:j<(aJ sz p).length:=by rw[bd];exact hj
  have h2:=nr (cO h1);rw[cO h1,h2.2,cell,List.getD_eq_getElem?_getD,cO (by omega)];rfl
 ·rw[ahl (by rw[bd];omega),ahl (by omega)]
theorem ah.xp{P:Program}{μ:Ro}{n:Nat}{cs:List PV}{x:Value}(h:ah P μ (.agg cs) x)(hn:cs.length=n):ah P μ (.agg (aJ n (.agg cs))) x:=by rw[fa (p:=.agg cs) (by simpa[PV.cells]using hn)];exact h
variable{t:TypeId}{k:PV→Option R}
theorem kA{r:R}(h:fV E t p k=some r):∃q,(∀(R':Type)(k':PV→Option R'),fV E t p k'=k' q)∧k q=some r∧(∀(P:Program)(μ:Ro)x,ah P μ p x→ah P μ q x)∧q≠.bad∧(∀cs,q≠.aP cs)∧(ax E.P t=false→∀cs,q≠.agg cs):=by
 unfold fV at h;split at h
 ·rename_i q hu;obtain⟨n,hn,hk⟩:=cQ.1 h;have hp:p=.int q n:=by cases p<;>simp[asInt]at hn;obtain⟨rfl,rfl⟩:=hn;rfl
  exact⟨.int q n,fun R' k'=>by simp[fV,hu,hn],hk,fun P μ x hx=>hp▸hx,by simp,by simp,by simp⟩
 ·rename_i hu;obtain⟨n,hn,hk⟩:=cQ.1 h;have hp:p=.bool n:=by cases p<;>simp[asBool]at hn;subst hn;rfl
  exact⟨.bool n,fun R' k'=>by simp[fV,hu,hn],hk,fun P μ x hx=>hp▸hx,by simp,by simp,by simp⟩
 ·rename_i hu;obtain⟨n,hn,hk⟩:=cQ.1 h;have hp:p=.str n:=by cases p<;>simp[aG]at hn;subst hn;rfl
  exact⟨.str n,fun R' k'=>by simp[fV,hu,hn],hk,fun P μ x hx=>hp▸hx,by simp,by simp,by simp⟩
 ·rename_i e hu;obtain⟨es,hn,hk⟩:=cQ.1 h;refine⟨.rs (aQ E.P e) es,fun R' k'=>by simp[fV,hu,hn],hk,fun P μ x hx=>?_,by simp,by simp,by simp⟩;cases p<;>simp[ay]at hn;split at hn
  ·rename_i hs;simp only[cN]at hn;rw[←hs,←hn];exact hx
  ·split at hn
   ·simp only[cN]at hn;subst hn;cases hx with
    |jL=>exact .jL
    |Jm h=>exact .Jm h
    |rs X h1 h2 _ _ _ _=>exact .Jm h2
   ·cases hn
 ·rename_i fs hu;obtain⟨u,hn,hk⟩:=cQ.1 h;refine⟨_,fun R' k'=>by simp[fV,hu,hn],hk,fun P μ x hx=>?_,by simp,by simp,by simp[ax,hu]⟩;cases p<;>simp[asAgg]at hn;exact hx.xp hn
 ·rename_i n e hu;obtain⟨u,hn,hk⟩:=cQ.1 h;refine⟨_,fun R' k'=>by simp[fV,hu,hn],hk,fun P μ x hx=>?_,by simp,by simp,by simp[ax,hu]⟩;cases p<;>simp[asAgg]at hn;exact hx.xp hn
 ·rename_i e hu;split at h
  ·exact⟨.oW,fun R' k'=>by simp[fV,hu],h,fun P μ x hx=>hx,by simp,by simp,by simp⟩
  ·rename_i cs;exact⟨.rp cs,fun R' k'=>by simp[fV,hu],h,fun P μ x hx=>hx,by simp,by simp,by simp⟩
  ·cases h
 ·rename_i kt et hu;unfold df at h;split at h
  ·exact⟨.sA,fun R' k'=>by simp[fV,hu,df],h,fun P μ x hx=>hx,by simp,by simp,by simp⟩
  ·rename_i uR ks vs;split at h
   ·rename_i he;subst he;exact⟨.rm _ ks vs,fun R' k'=>by simp[fV,hu,df],h,fun P μ x hx=>hx,by simp,by simp,by simp⟩
   ·cases h
  ·cases h
 ·rename_i ps rs vr hu;split at h
  ·exact⟨.Av,fun R' k'=>by simp[fV,hu],h,fun P μ x hx=>hx,by simp,by simp,by simp⟩
  ·rename_i g cs;exact⟨.fn g cs,fun R' k'=>by simp[fV,hu],h,fun P μ x hx=>hx,by simp,by simp,by simp⟩
  ·cases h
 ·rename_i ms hu;obtain⟨n,hn,hk⟩:=cQ.1 h;have hp:p=.WG n:=by cases p<;>simp[Qm]at hn;subst hn;rfl
  exact⟨.WG n,fun R' k'=>by simp[fV,hu,hn],hk,fun P μ x hx=>hp▸hx,by simp,by simp,by simp⟩
 ·cases h
theorem JL{v:V}{k:V→Option R}{r:R}(h:y9 E t v k=some r):∃u,(∀(R':Type)(k':V→Option R'),y9 E t v k'=k' u)∧k u=some r∧(∀(P:Program)(μ:Ro)(φ:Nat→aA)x,ag P μ φ v x→ag P μ φ u x)∧(∀id,u.has id=true→v.has id=true):=by
 unfold y9 at h;split at h
 ·obtain⟨q,h1,h2,h3,_⟩:=kA h;exact⟨.pv q,fun R' k'=>by simp[y9,h1],h2,fun P μ φ x hx=>by cases hx with|pv hp=>exact .pv (h3 _ _ _ hp),by simp⟩
 ·cases h
 ·rename_i h1 h2;split at h
  ·rename_i hu;refine⟨v,fun R' k'=>?_,h,fun _ _ _ _ hx=>hx,fun _ h=>h⟩;unfold y9;cases v<;>first|(simp only[hu,IS];done)|exact absurd rfl (h1 _)|exact absurd rfl h2
  ·cases h
theorem vu{r:R}(h:fV E t p k=some r):∃d,E.P.underlying t=some d:=by
 unfold fV at h;cases hq:E.P.underlying t with
 |none=>simp[hq]at h
 |some d=>exact⟨d,rfl⟩
theorem FN{v:V}{k:V→Option R}{r:R}(h:y9 E t v k=some r):∃d,E.P.underlying t=some d:=by
 unfold y9 at h;split at h
 ·exact vu h
 ·cases h
 ·split at h
  ·rename_i hu;exact aiO.1 hu
  ·cases h
end
section
variable {P:Program} {G:Nat→Option (List PV)} {w0:bw} {μ:Ro} {φ:Nat→aA} {m:Mem} {w:World}
variable{t:TypeId}{d:TypeDesc}
theorem BK(h:P.underlying t=some d):(P.info? t).map (·.size)=some (aQ P t):=by grind [Program.underlying,aQ]
theorem Dg(h:ax P t=true):∃d,P.underlying t=some d∧d.isRow=true:=by unfold ax at h;grind
theorem AM(hu:P.underlying t=some d):(isAgg t).run P w=.ok (ax P t) w:=by unfold isAgg;simp only[Sem.run_bind,run_underlying hu,Result.andThen_ok,ax,hu];cases d<;>rfl
theorem BL(hu:P.underlying t=some d):(sizeOf t).run P w=.ok (aQ P t) w:=by
 have:=BK hu;cases hi:P.info? t with
 |none=>simp[hi]at this
 |some i=>simp[sizeOf,typeInfo,hi,aQ]
variable{o:Nat}
theorem gA{b:Nat}{y:Value}(hu:P.underlying t=some d)(ha:ax P t=false)(hc:w.cell? ⟨b,o,none⟩=some y):(Instr.loadAt t (.pointer (some ⟨b,o,none⟩))).run P w=.ok y w:=by simp only[Instr.loadAt,Instr.sureAddr,loadVar,Sem.run_bind,Sem.run_pure,Result.andThen_ok,AM hu,ha];simp[load,Sem.run,hc]
theorem lQ{b:Nat}{cs:List Value}(ha:ax P t=true)(hc:w.rangeAt b o cs)(hl:cs.length=aQ P t):(Instr.loadAt t (.pointer (some ⟨b,o,none⟩))).run P w=.ok (.agg cs.toArray) w:=by grind [Dg,run_loadAt_mid,BK]
theorem av.cellAt(hM:av P G w0 μ φ m w){b o:Nat}{x:Value}(h:cellAt μ b o=some x):w.cell? ⟨b,o,none⟩=some x:=by
 unfold Go.Ab.cellAt at h;split at h
 ·rename_i c t fz hb;simp[World.cell?,hM.ro _ _ hb,h]
 ·cases h
theorem dp{g:Nat}{c:Array Value}{T:TypeId}{fz:Nat×Nat}(h:w.heap[g]?=some (.cells c T fz)):w.cell? ⟨g,o,none⟩=c[o]?:=by simp[World.cell?,h]
theorem eA{T:Type}{l:List T}{n i:Nat}{x:T}(h:(l.take n)[i]?=some x):i<n∧l[i]?=some x:=by grind
theorem nv{T:Type}{l:List T}{n i:Nat}{x:T}(h:((l.drop o).take n)[i]?=some x):i<n∧l[o+i]?=some x:=by grind
theorem ah.Z5{cs:List PV}{b n:Nat}{X:Nat→Value}(hM:av P G w0 μ φ m w)(h1:∀(i:Nat)p,cs[i]?=some p→Go.Ab.cellAt μ b (o+i)=some (X i))(h2:∀(i:Nat)p,cs[i]?=some p→ah P μ p (X i))(h3:∀i:Nat,i<cs.length→(X i).oneCell'=true)(hn:n≤cs.length):w.rangeAt b o ((List.range n).map X)∧ah P μ (.agg (cs.take n)) (.agg ((List.range n).map X).toArray):=by
 have hX:∀i x,((List.range n).map X)[i]?=some x→i<n∧x=X i:=by grind
 refine⟨fun j v hv=>?_,.agg (by simp;omega) (fun i p x hi hx=>?_) (fun i x hx=>?_)⟩
 ·obtain⟨hj,rfl⟩:=hX j v hv;exact hM.cellAt (h1 j _ (cO (by omega)))
 ·grind
 grind
end
section
variable {R:Type} {E:Env}
def Quiet(v:V)(m:Mem):Prop:=∀id,v.has id=true→(m id).isSome=true
theorem gr{g:V→Option PV}{cs:List V}{ps:List PV}(h:oY g cs=some ps):ps.length=cs.length∧∀(i:Nat)p,ps[i]?=some p→∃v,cs[i]?=some v∧g v=some p:=by
 induction cs generalizing ps with
 |nil=>simp[oY]at h;subst h;simp
 |cons c r ih=>simp only[oY]at h;obtain⟨p,hp,h⟩:=cQ.1 h;obtain⟨ps',oa,h⟩:=cQ.1 h;grind
variable{s off:Nat}{t:TypeId}{e:PV}
theorem FO{k:V→Option R}{r:R}(h:rN E s t e off k=some r):∃v,(∀(R':Type)(k':V→Option R'),rN E s t e off k'=k' v)∧k v=some r∧(∀id,v.has id=false)∧∀(μ:Ro)(φ:Nat→aA)(w:World)(g o:Nat)(c:Array Value)(T:TypeId),w.heap[g]?=some (.cells c T (0,0))→e.cells.length=s→(∀(j:Nat)p x,e.cells[j]?=some p→c[o+j]?=some x→ah E.P μ p x)→(∀(i:Nat)(x:Value),i<o+s→c[i]?=some x→x.oneCell'=true)→o+s≤c.size→∃y,(Instr.loadAt t (.pointer (some ⟨g,o+off,none⟩))).run E.P w=.ok y w∧ag E.P μ φ v y:=by
 unfold rN at h;split at h
 ·rename_i ha;split at h
  ·rename_i hb;refine⟨_,fun R' k'=>by simp[rN,ha,hb],h,by simp,fun μ φ w g o c T hg hs hc h1 hl=>?_⟩;have hR:w.rangeAt g (o+off) ((c.toList.drop (o+off)).take (aQ E.P t)):=fun j v hv=>by grind [nv,dp]
   refine⟨_,lQ ha hR (by simp;omega),.pv (.agg (by simp[bd];omega) (fun i p x hi hx=>?_) (fun i x hx=>?_))⟩
   ·grind [nv,fa,Nat.add_assoc]
   grind
  ·cases h
 ·rename_i ha;have ha:ax E.P t=false:=by simpa using ha
  split at h
  ·rename_i p hp;obtain⟨q,h1,h2,h3,_⟩:=kA h;obtain⟨d,hu⟩:=vu h;refine⟨.pv q,fun R' k'=>by simp[rN,ha,hp,h1],h2,by simp,fun μ φ w g o c T hg hs hc _ hl=>?_⟩;rw[fa hs]at hp;have RN:off<e.cells.length:=(AT.1 hp).1;have hx:c[o+off]?=some c[o+off]:=IN (by omega);exact⟨_,gA hu ha (by rw[dp hg];omega),.pv (h3 _ _ _ (hc off p _ hp hx))⟩
  ·cases h
variable{p:PV}
theorem RO{k:PV→Option R}{r:R}(h:fV E t p k=some r):p.isRow=false∧p≠.bad:=by
 cases p with
 |oX s es=>exfalso;unfold fV at h;split at h<;>simp[asInt,asBool,aG,ay,asAgg,Qm,df]at h
 |bad=>exfalso;unfold fV at h;split at h<;>simp[asInt,asBool,aG,ay,asAgg,Qm,df]at h
 |_=>exact⟨rfl,by simp⟩
theorem FP(h:cell e off=p)(hp:p≠.bad):e.cells[off]?=some p:=by grind [cell,absurd]
theorem JM{rs:List PV}(h:eL s p=some rs):p=.oX s rs:=by unfold eL at h;grind
variable{P:Program}{μ:Ro}{φ:Nat→aA}{w:World}{id i:Nat}{et:TypeId}{es:List PV}
theorem aW.cell{sz:Nat}(h:aW P μ φ w id sz et es){g:Nat}(hg:(φ id).g=some g)(he:es[i]?=some e)(hp:e.cells[off]?=some p):∃c T x,w.heap[g]?=some (.cells c T (0,0))∧c[i*sz+off]?=some x∧dV P μ ((φ id).row i off) w p x∧x.oneCell'=true:=by
 obtain⟨a1,a2,a3,a4,a5,a6,a7⟩:=h;rw[hg]at a7;obtain⟨c,T,c1,c2,c3,c4,c5⟩:=a7;have hi:i<es.length:=(AT.1 he).1;have ho:off<sz:=by grind
 have h1:(i+1)*sz≤es.length*sz:=ZG _ (by omega);have h2:es.length*sz≤(φ id).cap*sz:=ZG _ c3;rw[ajc]at h1;have bT:i*sz+off<c.size:=by omega
 exact⟨c,T,c[i*sz+off],c1,IN bT,c4 i e off p _ he hp (IN bT),c5 (i*sz+off) _ (by omega) (IN bT)⟩
theorem aW.row{sz:Nat}(h:aW P μ φ w id sz et es){rs:List PV}(he:es[i]?=some e)(hr:eL s (Go.Ab.cell e off)=some rs):∃g x,(φ id).g=some g∧w.cell? ⟨g,i*sz+off,none⟩=some x∧ez P μ ((φ id).row i off) w s rs x∧e.cells[off]?=some (.oX s rs):=by
 have hp:=FP (JM hr) (by simp);cases hg:(φ id).g with
 |none=>obtain⟨a1,a2,a3,a4,a5,a6,a7⟩:=h;simp_all
 |some g=>obtain⟨c,_,x,c1,c2,c3,_⟩:=h.cell hg he hp;exact⟨g,x,rfl,by rw[dp c1];omega,c3,hp⟩
theorem ag.Z6{ν:Ro}{x:Value}(h:ag P μ (fun _=>((φ id).row i off).up) (.os 0) x):ag P ν φ (.vg id i off) x:=by
 cases h with
 |qY h=>exact .G8 h
 |os h=>exact .vg h
theorem ag.MI{ν:Ro}{x:Value}(h:ag P μ φ (.vg id i off) x):ag P ν (fun _=>((φ id).row i off).up) (.os 0) x:=by
 cases h with
 |G8 h=>exact .qY h
 |vg h=>exact .os (id:=0) (φ:=fun _=>((φ id).row i off).up) h
theorem FQ{s:Nat}:∀{es:List PV}{k:Nat}{p:PV},(sB s es)[k]?=some p→∃i j e,k=i*s+j∧j<s∧es[i]?=some e∧(aJ s e)[j]?=some p
 |[],k,p,h=>by simp[sB]at h
 |e::es,k,p,h=>by
  simp only[sB]at h;rw[aiX,bd]at h;split at h
  ·exact⟨0,k,e,by omega,‹_›,rfl,h⟩
  ·obtain⟨i,j,e',h1,h2,h3,h4⟩:=FQ h;exact⟨i+1,j,e',by rw[ajc];omega,h2,by simpa using h3,h4⟩
theorem FT{s:Nat}:∀{es:List PV},(sB s es).length=es.length*s
 |[]=>by simp[sB]
 |e::es=>by simp only[sB,ai1,bd,FT,aiV,ajc];omega
theorem FU(h:AA E t s i off=true):ax E.P t=true∧i=0∧off=0∧∃n e,E.P.underlying t=some (.array n e)∧aQ E.P e=s∧ax E.P e=true:=by
 unfold AA at h;split at h
 ·rename_i n e hu;simp only[No]at h;grind [ax,Nat.eq_of_beq_eq_true]
 ·cases h
theorem aH.whole(hA:aH P μ φ w id s et es){g:Nat}(hg:(φ id).g=some g):∃xs:List Value,xs.length=es.length*s∧w.rangeAt g 0 xs∧ah P μ (.agg (sB s es)) (.agg xs.toArray):=by
 obtain⟨a1,a2,a3,a4,a5,a6,a7⟩:=hA;rw[hg]at a7;obtain⟨c,T,c1,c2,c3,c4,c5⟩:=a7;have hle:es.length*s≤c.size:=ajq (ZG _ c3) c2;refine⟨c.toList.take (es.length*s),by simp;omega,fun j v hv=>?_,.agg (by rw[FT];simp;omega) (fun k p x hp hx=>?_) (fun k x hx=>?_)⟩
 ·grind [dp]
 ·obtain⟨i,j,e,rfl,hj,he,hp⟩:=FQ hp;grind [fa]
 grind
theorem JI{own:Bool}{a:V}{m:Mem}{k:V→bq→Option R}{r:R}(h:oM E own t a m k=some r):∃v ft,(∀m2:Mem,(∀x∈ft,m2 x.2=m x.2)→∀(R':Type)(k':V→bq→Option R'),oM E own t a m2 k'=k' v ft)∧k v ft=some r∧(∀x∈ft,x.1=false)∧∀(G:Nat→Option (List PV))(w0:bw)(μ:Ro)(φ:Nat→aA)(w:World)(x:Value),av E.P G w0 μ φ m w→ag E.P μ φ a x→∃y,(Instr.loadAt t x).run E.P w=.ok y w∧ag E.P μ φ v y∧Quiet v m:=by
 unfold oM at h;split at h
 ·rename_i cs;split at h
  ·rename_i ha;split at h
   ·rename_i hn;refine⟨_,_,fun m2 _ R' k'=>by simp[oM,ha,hn],h,by simp,fun G w0 μ φ w x hM hx=>?_⟩;cases hx with
    |pv hp=>cases hp with
     |rp X h1 h2 h3=>obtain⟨hr,hv⟩:=ah.Z5 hM h1 h2 h3 hn;exact⟨_,lQ ha hr (by simp),.pv hv,by simp[Quiet]⟩
   ·cases h
  ·rename_i ha;have ha:ax E.P t=false:=by simpa using ha
   obtain⟨p,G9,h⟩:=cQ.1 h;have hp1:cs[0]?=some p:=by simp_all[akq]
   obtain⟨q,h1,h2,h3,_⟩:=kA h;refine⟨_,_,fun m2 _ R' k'=>by simp[oM,ha,G9,h1],h2,by simp,fun G w0 μ φ w x hM hx=>?_⟩;obtain⟨d,hu⟩:=vu h;cases hx with
   |pv hp=>cases hp with
    |rp X g1 g2 g3=>have hc:=hM.cellAt (g1 0 p hp1);exact⟨_,gA hu ha (by omega),.pv (h3 _ _ _ (g2 0 p hp1)),by simp[Quiet]⟩
 ·rename_i id off;split at h
  ·rename_i cs hm;split at h
   ·rename_i ha;split at h
    ·rename_i hn;refine⟨_,_,fun m2 cL R' k'=>by simp[oM,ha,hn,cL (false,id) (by simp),hm],h,by simp,fun G w0 μ φ w x hM hx=>?_⟩;cases hx with
     | @op _ _ g hg=>
      obtain⟨g',c,T,cv,hh,hs,hv,h1,CJ⟩:=hM.dw id _ hm;rw[hg]at cv;simp only[cN]at cv;subst cv;have hR:w.rangeAt g off ((c.toList.drop off).take (aQ E.P t)):=fun j v hv=>by grind [nv,dp]
      refine⟨_,lQ ha hR (by simp;omega),.agg (by simp;omega) (fun i p x hi hx=>?_) (fun i x hx=>?_),?_⟩
      ·grind
      ·grind
      ·intro qW hid;simp only[V.has]at hid;obtain⟨v,hv,hh⟩:=cC.1 hid;exact hM.fu id cs qW hm (bH (akd (ajX hv)) hh)
    ·cases h
   ·rename_i ha;have ha:ax E.P t=false:=by simpa using ha
    split at h
    ·rename_i ps oa;obtain⟨p,G9,h⟩:=cQ.1 h;obtain⟨q,h1,h2,h3,_⟩:=kA h;refine⟨_,_,fun m2 cL R' k'=>by simp[oM,ha,cL (false,id) (by simp),hm,oa,G9,h1],h2,by simp,fun G w0 μ φ w x hM hx=>?_⟩;cases hx with
     | @op _ _ g hg=>
      obtain⟨g',c,T,cv,hh,hs,hvv,_⟩:=hM.dw id _ hm;rw[hg]at cv;simp only[cN]at cv;subst cv;obtain⟨f1,f2⟩:=gr oa;obtain⟨bT,hp1⟩:=AT.1 G9;have RN:off<cs.length:=by omega
      obtain⟨v,hv,mJ⟩:=f2 off p G9;have hvp:v=.pv p:=by cases v<;>simp[pvO]at mJ;subst mJ;rfl
      subst hvp;have hx:c[off]?=some c[off]:=IN (by omega);obtain⟨d,hu⟩:=vu h;have hr:=hvv off _ _ hv hx;cases hr with
      |pv hr=>exact⟨_,gA hu ha (by rw[dp hh];omega),.pv (h3 _ _ _ hr),by simp[Quiet]⟩
    ·rename_i WH;split at h
     ·rename_i v hv;obtain⟨u,h1,h2,h3,h4⟩:=JL h;refine⟨_,_,fun m2 cL R' k'=>by simp[oM,ha,cL (false,id) (by simp),hm,WH,hv,h1],h2,by simp,fun G w0 μ φ w x hM hx=>?_⟩;cases hx with
      | @op _ _ g hg=>obtain⟨g',c,T,cv,hh,hs,hvv,_⟩:=hM.dw id _ hm;rw[hg]at cv;simp only[cN]at cv;subst cv;have RN:off<cs.length:=(AT.1 hv).1;have hx:c[off]?=some c[off]:=IN (by omega);obtain⟨d,hu⟩:=FN h;refine⟨_,gA hu ha (by rw[dp hh];omega),h3 _ _ _ _ (hvv off v _ hv hx),fun qW hid=>?_⟩;exact hM.fu id cs qW hm (bH (abV hv) (h4 qW hid))
     ·cases h
  ·cases h
 ·rename_i id i off;have key:∀(sz:Nat)(et:TypeId)(es:List PV),(m id=some (.arr sz et es)∨m id=some (.pt sz et es))→((es[i]?).bind fun e=>rN E sz t e off fun v=>k v [(false,id)])=some r→∃v,(∀(R':Type)(k':V→bq→Option R'),((es[i]?).bind fun e=>rN E sz t e off fun v=>k' v [(false,id)])=k' v [(false,id)])∧k v [(false,id)]=some r∧∀(G:Nat→Option (List PV))(w0:bw)(μ:Ro)(φ:Nat→aA)(w:World)(x:Value),av E.P G w0 μ φ m w→ag E.P μ φ (.oe id i off) x→∃y,(Instr.loadAt t x).run E.P w=.ok y w∧ag E.P μ φ v y∧Quiet v m:=by
   intro sz et es hm hb;obtain⟨e,he,hb⟩:=cQ.1 hb;obtain⟨v,h1,h2,h3,h4⟩:=FO hb;refine⟨v,fun R' k'=>by simp[he,h1],h2,fun G w0 μ φ w x hM hx=>?_⟩;have hA:aH E.P μ φ w id sz et es:=by
    rcases hm with hm|hm
    ·exact hM.dw id _ hm
    ·exact(hM.dw id _ hm).1
   cases hx with
   | @oe _ _ _ g hg=>
    obtain⟨a1,a2,a3,a4,a5,a6,a7⟩:=hA;rw[hg]at a7;obtain⟨c,T,c1,c2,c3,c4,c5⟩:=a7;have hi:i<es.length:=(AT.1 he).1;obtain⟨y,hy,hv⟩:=h4 μ φ w g (i*sz) c T c1 (a5 i e he) (fun j p x hj hx=>c4 i e j p x he hj hx) (fun i' x oc hx=>c5 i' x (by
     have:(i+1)*sz≤es.length*sz:=ZG _ (by omega);grind) hx) (by
     have:(i+1)*sz≤(φ id).cap*sz:=ZG _ (by omega);grind)
    rw[a2];exact⟨y,hy,hv,fun id hid=>by simp_all⟩
  split at h
  ·rename_i sz et es hm;cases hw:AA E t sz i off with
   |true=>
    rw[hw]at h;simp only[cond_true]at h;split at h
    ·rename_i hl;obtain⟨ha,rfl,rfl,_⟩:=FU hw;refine⟨_,_,fun m2 cL R' k'=>by have:=cL (false,id) (by simp);simp_all[oM,cond_true,AI],h,by simp,fun G w0 μ φ w x hM hx=>?_⟩;have hA:aH E.P μ φ w id sz et es:=hM.dw id _ hm;cases hx with
     | @oe _ _ _ g hg=>obtain⟨xs,x1,x2,x3⟩:=hA.whole hg;rw[alx];exact⟨_,lQ ha x2 (by omega),.pv x3,by simp[Quiet]⟩
    ·cases h
   |false=>rw[hw]at h;obtain⟨v,h1,h2,h3⟩:=key sz et es (.inl hm) h;exact⟨v,_,fun m2 cL R' k'=>by have:=cL (false,id) (by simp);simp_all[oM,cond_false],h2,by simp,h3⟩
  ·rename_i sz et es hm;obtain⟨v,h1,h2,h3⟩:=key sz et es (.inr hm) h;exact⟨v,_,fun m2 cL R' k'=>by have:=cL (false,id) (by simp);simp_all[oM],h2,by simp,h3⟩
  ·rename_i sz et es hm;split at h
   ·cases h
   ·rename_i ha;obtain⟨e,he,h⟩:=cQ.1 h;have YW:ax E.P t=false:=by simpa using ha
    split at h
    ·rename_i ho;split at h
     ·rename_i E2 hu;obtain⟨rs,hr,h⟩:=cQ.1 h;refine⟨_,_,fun m2 cL R' k'=>by have:=cL (false,id) (by simp);simp_all[oM,By,aiH,IS],h,by simp,fun G w0 μ φ w x hM hx=>?_⟩;have hN:aW E.P μ φ w id sz et es:=hM.dw id _ hm;obtain⟨g,y,hg,hc,jT,_⟩:=hN.row he hr;cases hx with
      |oe cv=>rw[hg]at cv;simp only[cN]at cv;subst cv;rw[hN.2.1];refine⟨y,gA hu YW hc,.Z6 jT.2,fun j hj=>?_⟩;have:=BY hj;subst this;rw[hm];rfl
     ·cases h
    ·rename_i ho;obtain⟨q,h1,h2,h3,_⟩:=kA h;obtain⟨hq1,hq2⟩:=RO h;obtain⟨d,hu⟩:=vu h;refine⟨_,_,fun m2 cL R' k'=>by have:=cL (false,id) (by simp);simp_all[oM,By,aiH,T1,cT],h2,by simp,fun G w0 μ φ w x hM hx=>?_⟩;have hN:aW E.P μ φ w id sz et es:=hM.dw id _ hm;cases hx with
     |oe hg=>obtain⟨c,_,y,c1,c2,c3,_⟩:=hN.cell hg he (FP rfl hq2);rw[hN.2.1];exact⟨y,gA hu YW (by rw[dp c1];omega),.pv (h3 _ _ _ (c3.Qr hq1)),by simp[Quiet]⟩
  ·cases h
 ·rename_i id i off s j off2;split at h
  ·rename_i sz et es hm;obtain⟨e,he,h⟩:=cQ.1 h;obtain⟨rs,hr,h⟩:=cQ.1 h;obtain⟨q,hq,h⟩:=cQ.1 h;obtain⟨v,h1,h2,h3,h4⟩:=FO h;refine⟨v,_,fun m2 cL R' k'=>by have:=cL (false,id) (by simp);simp_all[oM,aiH],h2,by simp,fun G w0 μ φ w x hM hx=>?_⟩;have hN:aW E.P μ φ w id sz et es:=hM.dw id _ hm;obtain⟨g,y,hg,hc,⟨⟨E2,hA⟩,hV⟩,_⟩:=hN.row he hr;cases hx with
   | @y7 _ _ _ _ _ _ g' cv hs=>obtain⟨a1,a2,a3,a4,a5,a6,a7⟩:=hA;have hgu:((φ id).row i off).up.g=some g':=cv;rw[hgu]at a7;obtain⟨c,T,c1,c2,c3,c4,c5⟩:=a7;have hj:j<rs.length:=(AT.1 hq).1;have e1:(j+1)*s≤rs.length*s:=ZG _ (by omega);have e2:rs.length*s≤((φ id).row i off).up.cap*s:=ZG _ c3;have e3:((φ id).row i off).up.cap*s≤c.size:=c2;rw[ajc]at e1;obtain⟨y,hy,hv⟩:=h4 μ φ w g' (j*s) c T c1 (a5 j q hq) (fun l p x hl hx=>c4 j q l p x hq hl hx) (fun i' x oc hx=>c5 i' x (by omega) hx) (by omega);exact⟨y,hy,hv,fun id hid=>by simp_all⟩
  ·cases h
 ·cases h
end
section
variable {R:Type} {E:Env}
variable{s t:TypeId}{j o:Nat}
theorem BM(h:za E s j=some (o,t)):∃fs f,E.P.underlying s=some (.struct fs)∧fs[j]?=some f∧f.offset=o∧f.type=t∧aQ E.P t≠0:=by unfold za at h;grind
variable{P:Program}
theorem wN(h:aQ P t≠0):∃i,P.info? t=some i∧i.size=aQ P t:=by
 unfold aQ at*;cases hi:P.info? t with
 |none=>simp[hi]at h
 |some i=>simp
variable{w:World}
theorem iA(h:aQ P t≠0):(sizeOf t).run P w=.ok (aQ P t) w:=by obtain⟨i,hi,hs⟩:=wN h;simp[sizeOf,typeInfo,hi,hs]
theorem rj{fs:Array Field}{f:Field}{b:Nat}(hu:P.underlying s=some (.struct fs))(hf:fs[j]?=some f)(hz:aQ P f.type≠0):(Instr.fieldAt s (.pointer (some ⟨b,o,none⟩)) j).run P w=.ok (.pointer (some ⟨b,o+f.offset,none⟩)) w:=by simp_all[Instr.fieldAt,run_underlying,Instr.sureAddr,fieldPlace,iA,Addr.add_mid]
theorem pO{T:Type}{l:List T}{i:Nat}{x:T}(h:(l.drop o)[i]?=some x):l[o+i]?=some x:=by simp_all
theorem ah.Ha{μ:Ro}{cs:List PV}{b:Nat}(n:Nat)(h:ah P μ (.rp cs) (.pointer (some ⟨b,o,none⟩))):ah P μ (.rp (cs.drop n)) (.pointer (some ⟨b,o+n,none⟩)):=by
 cases h with
 |rp X h1 h2 h3=>
  refine .rp (fun i=>X (n+i)) (fun i p hi=>?_) (fun i p hi=>h2 _ p (pO hi)) (fun i hi=>h3 _ ?_)
  ·grind
  ·simp at hi;omega
variable{x:V}{k:V→Option R}{r:R}
theorem Fc(h:jd E s x j k=some r):∃v,(∀(R':Type)(k':V→Option R'),jd E s x j k'=k' v)∧k v=some r∧(∀id,v.has id=x.has id)∧∀(μ:Ro)(φ:Nat→aA)(w:World)(y:Value),ag E.P μ φ x y→∃z,(Instr.fieldAt s y j).run E.P w=.ok z w∧ag E.P μ φ v z:=by
 unfold jd at h;split at h
 ·rename_i o t ho;obtain⟨fs,f,hu,hf,rfl,rfl,hz⟩:=BM ho;split at h
  ·rename_i cs;refine⟨_,fun R' k'=>by simp[jd,ho],h,by simp,fun μ φ w y hy=>?_⟩;cases hy with
   |pv hp=>cases hp with
    |rp X h1 h2 h3=>exact⟨_,rj hu hf hz,.pv (ah.Ha _ (.rp X h1 h2 h3))⟩
  ·rename_i id off;refine⟨_,fun R' k'=>by simp[jd,ho],h,by simp[V.has],fun μ φ w y hy=>?_⟩;cases hy with
   |op hg=>exact⟨_,rj hu hf hz,.op hg⟩
  ·rename_i id i off;refine⟨_,fun R' k'=>by simp[jd,ho],h,by simp[V.has],fun μ φ w y hy=>?_⟩;cases hy with
   |oe hg=>exact⟨_,rj hu hf hz,by rw[ajg];exact .oe hg⟩
  ·refine⟨_,fun R' k'=>by simp[jd,ho],h,by simp[V.has],fun μ φ w y hy=>?_⟩;cases hy with
   |y7 hg hs=>exact⟨_,rj hu hf hz,by rw[ajg];exact .y7 hg hs⟩
  ·cases h
 ·cases h
theorem gB{e:TypeId}{q:IntKind}{i:Int}{ad:Addr}{len cap:Nat}(hu:P.underlying t=some (.slice e))(hz:aQ P e≠0)(h0:0≤i)(h1:i<(len:Int)):(Instr.indexAt t (.slice (some ad) len cap) (.int q i)).run P w=.ok (.pointer (some (ad.add (i.toNat*aQ P e)))) w:=by simp[Instr.indexAt,asIntOf,run_underlying hu,h0,h1,iA hz]
theorem kB{e:TypeId}{n:Nat}{q:IntKind}{i:Int}{ad:Addr}(hu:P.underlying t=some (.array n e))(hz:aQ P e≠0)(h0:0≤i)(h1:i<(n:Int)):(Instr.indexAt t (.pointer (some ad)) (.int q i)).run P w=.ok (.pointer (some (ad.add (i.toNat*aQ P e)))) w:=by simp[Instr.indexAt,asIntOf,run_underlying hu,h0,h1,iA hz,Instr.sureAddr]
theorem W8{es:List PV}{i:Int}{p:PV}(h:az es i=some p):0≤i∧es[i.toNat]?=some p∧i<(es.length:Int):=by grind [az]
theorem ah.Qt{μ:Ro}{sz:Nat}{es:List PV}{x:Value}{n:Nat}{p:PV}(h:ah P μ (.rs sz es) x)(hp:es[n]?=some p):∃b o cap,x=.slice (some ⟨b,o,none⟩) es.length cap∧ah P μ (.rp (aJ sz p)) (.pointer (some ⟨b,o+n*sz,none⟩)):=by
 cases h with
 |jL=>simp at hp
 |Jm _=>simp at hp
 | @rs _ _ b o cap X h1 h2 h3 h4 h5 h6=>refine⟨b,o,cap,rfl,?_⟩;rw[fa (h3 n p hp)];exact .rp (X n) (fun i q hi=>h4 n p i q hp hi) (fun i q hi=>h5 n p i q hp hi) (fun i hi=>h6 n p i _ hp (cO hi))
theorem Fe{ix:V}{m:Mem}{k:V→bq→Option R}(h:da E t x ix m k=some r):∃v ft,(∀m2:Mem,(∀x∈ft,m2 x.2=m x.2)→∀(R':Type)(k':V→bq→Option R'),da E t x ix m2 k'=k' v ft)∧k v ft=some r∧(∀x∈ft,x.1=false)∧(∀id,v.has id=true→x.has id=true)∧∀(G:Nat→Option (List PV))(w0:bw)(μ:Ro)(φ:Nat→aA)(w:World)(y z:Value),av E.P G w0 μ φ m w→ag E.P μ φ x y→ag E.P μ φ ix z→∃u,(Instr.indexAt t y z).run E.P w=.ok u w∧ag E.P μ φ v u:=by
 unfold da at h;split at h
 ·rename_i q i;split at h
  ·rename_i e s es hu;split at h
   ·rename_i hs;obtain⟨p,hp,hk⟩:=cQ.1 h;refine⟨_,_,fun m2 _ R' k'=>by simp only[da,hu];rw[AI hs,hp];rfl,hk,by simp,by simp,fun G w0 μ φ w y z hM hy hz=>?_⟩;obtain⟨h0,hp,hl⟩:=W8 hp;cases hz with
    |pv hz=>cases hz with
     |int zi=>
      cases hy with
      |pv hy=>obtain⟨b,o,cap,rfl,hr⟩:=hy.Qt hp;refine⟨_,gB hu (by omega) h0 hl,?_⟩;rw[Addr.add_mid,←hs.1];exact .pv hr
   ·cases h
  ·rename_i e id hu;have key:∀(s:Nat)(et:TypeId)(es:List PV),(m id=some (.arr s et es)∨m id=some (.pt s et es))→s=aQ E.P e∧0<s→aj i es.length→∀(G:Nat→Option (List PV))(w0:bw)(μ:Ro)(φ:Nat→aA)(w:World)(y z:Value),av E.P G w0 μ φ m w→ag E.P μ φ (.os id) y→ag E.P μ φ (.pv (.int q i)) z→∃u,(Instr.indexAt t y z).run E.P w=.ok u w∧ag E.P μ φ (.oe id i.toNat 0) u:=by
    intro s et es hm hs hr G w0 μ φ w y z hM hy hz;have hA:aH E.P μ φ w id s et es:=by
     rcases hm with hm|hm
     ·exact hM.dw id _ hm
     ·exact(hM.dw id _ hm).1
    obtain⟨a1,a2,a3,a4,a5,a6,a7⟩:=hA;cases hz with
    |pv hz=>cases hz with
     |int zi=>
      cases hy with
      |qY hg=>grind [aj]
      | @os _ g hg=>refine⟨_,gB hu (by omega) hr.1 (by rw[a1];exact hr.2),?_⟩;rw[Addr.add_mid];have:=ag.oe (P:=E.P) (μ:=μ) (φ:=φ) (id:=id) (i:=i.toNat) (off:=0) hg;simp_all
   split at h
   ·rename_i s et es hm;split at h
    ·rename_i hs;split at h
     ·rename_i hr;exact⟨_,_,fun m2 cL R' k'=>by have:=cL (false,id) (by simp);simp only at this;simp only[da,hu,this,hm];grind,h,by simp,by simp[V.has],key s et es (.inl hm) hs hr⟩
     ·cases h
    ·cases h
   ·rename_i s et es hm;split at h
    ·rename_i hs;split at h
     ·rename_i hr;exact⟨_,_,fun m2 cL R' k'=>by have:=cL (false,id) (by simp);simp only at this;simp only[da,hu,this,hm];grind,h,by simp,by simp[V.has],key s et es (.inr hm) hs hr⟩
     ·cases h
    ·cases h
   ·rename_i s et es hm;split at h
    ·rename_i hs;split at h
     ·rename_i hr;refine⟨_,_,fun m2 cL R' k'=>by have:=cL (false,id) (by simp);simp only at this;simp only[da,hu,this,hm];grind,h,by simp,by simp[V.has],fun G w0 μ φ w y z hM hy hz=>?_⟩;have hA:aW E.P μ φ w id s et es:=hM.dw id _ hm;obtain⟨a1,a2,a3,a4,a5,a6,a7⟩:=hA;cases hz with
      |pv hz=>cases hz with
       |int zi=>
        cases hy with
        |qY hg=>grind [aj]
        | @os _ g hg=>refine⟨_,gB hu (by omega) hr.1 (by rw[a1];exact hr.2),?_⟩;rw[Addr.add_mid];have:=ag.oe (P:=E.P) (μ:=μ) (φ:=φ) (id:=id) (i:=i.toNat) (off:=0) hg;simp_all
     ·cases h
    ·cases h
   ·rename_i cs hm;split at h
    ·rename_i hs;refine⟨_,_,fun m2 cL R' k'=>by have:=cL (false,id) (by simp);simp_all[da,AI],h,by simp,by simp[V.has],fun G w0 μ φ w y z hM hy hz=>?_⟩;obtain⟨g,c,T,hg,hh,mI,hv,sI,CJ⟩:=hM.dw id _ hm;cases hz with
     |pv hz=>cases hz with
      |int zi=>
       cases hy with
       |qY cv=>simp_all
       | @os _ g' cv=>refine⟨_,gB hu (by omega) hs.2.1 (by rw[CJ];exact hs.2.2),?_⟩;rw[Addr.add_mid,hs.1];have:=ag.op (P:=E.P) (μ:=μ) (φ:=φ) (id:=id) (off:=i.toNat) cv;simpa using this
    ·cases h
   ·cases h
  ·rename_i e id i0 off hu;split at h
   ·rename_i s0 et0 es hm;split at h
    ·rename_i eB;obtain⟨e0,he,h⟩:=cQ.1 h;obtain⟨rs,Ml,h⟩:=cQ.1 h;split at h
     ·rename_i hr;refine⟨_,_,fun m2 cL R' k'=>by have:=cL (false,id) (by simp);simp_all[da,AI,aiH],h,by simp,by simp[V.has],fun G w0 μ φ w y z hM hy hz=>?_⟩;have hN:aW E.P μ φ w id s0 et0 es:=hM.dw id _ hm;obtain⟨_,_,_,_,⟨⟨E2,hA⟩,_⟩,_⟩:=hN.row he Ml;obtain⟨a1,a2,a3,a4,a5,a6,a7⟩:=hA;cases hz with
      |pv hz=>cases hz with
       |int zi=>
        cases hy with
        |G8 hg=>have cv:((φ id).row i0 off).up.g=none:=hg;simp_all[aj]
        | @vg _ _ _ g hg=>have a1':((φ id).row i0 off).len=rs.length:=a1;refine⟨_,gB hu (by omega) hr.1 (by rw[a1'];exact hr.2),?_⟩;rw[Addr.add_mid];have:=ag.y7 (P:=E.P) (μ:=μ) (φ:=φ) (id:=id) (i:=i0) (off:=off) (s:=aQ E.P e) (j:=i.toNat) (off2:=0) hg a2;simpa using this
     ·cases h
    ·cases h
   ·cases h
  ·rename_i e id lo len hu;have key:∀(s:Nat)(et:TypeId)(es:List PV),(m id=some (.arr s et es)∨m id=some (.pt s et es))→s=aQ E.P e∧0<s→aj i len→∀(G:Nat→Option (List PV))(w0:bw)(μ:Ro)(φ:Nat→aA)(w:World)(y z:Value),av E.P G w0 μ φ m w→ag E.P μ φ (.fq id lo len) y→ag E.P μ φ (.pv (.int q i)) z→∃u,(Instr.indexAt t y z).run E.P w=.ok u w∧ag E.P μ φ (.oe id (lo+i.toNat) 0) u:=by
    intro s et es hm hs hr G w0 μ φ w y z hM hy hz;have hA:aH E.P μ φ w id s et es:=by
     rcases hm with hm|hm
     ·exact hM.dw id _ hm
     ·exact(hM.dw id _ hm).1
    obtain⟨a1,a2,a3,a4,a5,a6,a7⟩:=hA;cases hz with
    |pv hz=>cases hz with
     |int zi=>
      cases hy with
      |pL hg=>simp[aj]at hr;omega
      | @fq _ _ _ Co g ad hg hl ha Z7 T8=>
       have ha:=ha.resolve_right fun hh=>by have:=hr.1;have:=hr.2;omega
       subst ha;refine⟨_,gB hu (by omega) hr.1 hr.2,?_⟩;rw[Addr.add_mid];have:=ag.oe (P:=E.P) (μ:=μ) (φ:=φ) (id:=id) (i:=lo+i.toNat) (off:=0) hg;grind
   split at h
   ·rename_i s et es hm;split at h
    ·rename_i hs;split at h
     ·rename_i hr;exact⟨_,_,fun m2 cL R' k'=>by have:=cL (false,id) (by simp);simp only at this;simp only[da,hu,this,hm];grind,h,by simp,by simp[V.has],key s et es (.inl hm) hs hr⟩
     ·cases h
    ·cases h
   ·rename_i s et es hm;split at h
    ·rename_i hs;split at h
     ·rename_i hr;exact⟨_,_,fun m2 cL R' k'=>by have:=cL (false,id) (by simp);simp only at this;simp only[da,hu,this,hm];grind,h,by simp,by simp[V.has],key s et es (.inr hm) hs hr⟩
     ·cases h
    ·cases h
   ·cases h
  ·rename_i n e id off hu;split at h
   ·rename_i hr;refine⟨_,_,fun m2 _ R' k'=>by simp_all[da,AI],h,by simp,by simp[V.has],fun G w0 μ φ w y z hM hy hz=>?_⟩;cases hz with
    |pv hz=>cases hz with
     |int zi=>
      cases hy with
      |op hg=>exact⟨_,kB hu (by omega) hr.1.1 hr.1.2,by rw[Addr.add_mid];exact .op hg⟩
   ·cases h
  ·rename_i n e cs hu;split at h
   ·rename_i hr;refine⟨_,_,fun m2 _ R' k'=>by simp_all[da,AI],h,by simp,by simp,fun G w0 μ φ w y z hM hy hz=>?_⟩;cases hz with
    |pv hz=>cases hz with
     |int zi=>
      cases hy with
      |pv hy=>cases hy with
       |rp X h1 h2 h3=>exact⟨_,kB hu (by omega) hr.1.1 hr.1.2,by rw[Addr.add_mid];exact .pv (ah.Ha _ (.rp X h1 h2 h3))⟩
   ·cases h
  ·rename_i n e id j off hu;split at h
   ·rename_i hr;split at h
    ·rename_i hb;refine⟨_,_,fun m2 cL R' k'=>by have:=cL (false,id) (by simp);simp_all[da,AI],h,by simp,by simp[V.has],fun G w0 μ φ w y z hM hy hz=>?_⟩;have mI:(φ id).sz=aQ E.P e:=by
      split at hb
      ·rename_i s et es hm;rw[BY hb];have hA:aH E.P μ φ w id s et es:=hM.dw id _ hm;exact hA.2.1
      ·cases hb
     cases hz with
     |pv hz=>cases hz with
      |int zi=>
       cases hy with
       |oe hg=>refine⟨_,kB hu (by omega) hr.1.1 hr.1.2,?_⟩;have:=ag.oe (P:=E.P) (μ:=μ) (φ:=φ) (id:=id) (i:=i.toNat+j) (off:=off) hg;grind [Addr.add_mid,id,aQ,Nat.add_mul]
    ·rename_i hb;refine⟨_,_,fun m2 cL R' k'=>by have:=cL (false,id) (by simp);simp_all[da,AI],h,by simp,by simp[V.has],fun G w0 μ φ w y z hM hy hz=>?_⟩;cases hz with
     |pv hz=>cases hz with
      |int zi=>
       cases hy with
       |oe hg=>exact⟨_,kB hu (by omega) hr.1.1 hr.1.2,by rw[Addr.add_mid,ajg];exact .oe hg⟩
   ·cases h
  ·cases h
 ·cases h
theorem nH{cs:List V}(h:pH x=some cs):(∀id,cd id cs=true→x.has id=true)∧∀(P:Program)(μ:Ro)(φ:Nat→aA)y,ag P μ φ x y→∃xs:Array Value,y=.agg xs∧cs.length=xs.size∧(∀(i:Nat)p x,cs[i]?=some p→xs[i]?=some x→ag P μ φ p x)∧(∀(i:Nat)(x:Value),xs[i]?=some x→x.oneCell'=true):=by
 unfold pH at h;split at h
 ·simp only[cN]at h;subst h;refine⟨fun id hid=>(by rw[Qs]at hid;cases hid),fun P μ φ y hy=>?_⟩;cases hy with
  |pv hy=>cases hy with
   |agg h1 h2 h3=>refine⟨_,rfl,by simpa using h1,fun i p x hi hx=>?_,h3⟩;simp only[GP,Yo]at hi;obtain⟨q,hq,rfl⟩:=hi;exact .pv (h2 i q x hq hx)
 ·simp only[cN]at h;subst h;refine⟨fun id hid=>by simpa[V.has]using hid,fun P μ φ y hy=>?_⟩;cases hy with
  |agg h1 h2 h3=>grind
 ·cases h
variable{xs:Array Value}{off:Nat}
theorem zj(ha:ax P t=true):(part t xs off).run P w=.ok (.agg (xs.extract off (off+aQ P t))) w:=by obtain⟨d,hu,_⟩:=Dg ha;simp_all[part,AM,BL]
theorem zk{d:TypeDesc}{y:Value}(hu:P.underlying t=some d)(ha:ax P t=false)(hy:xs[off]?=some y):(part t xs off).run P w=.ok y w:=by simp[part,AM hu,ha,hy]
theorem JN{cs:List V}(h:C2 E t cs off k=some r):∃v,(∀(R':Type)(k':V→Option R'),C2 E t cs off k'=k' v)∧k v=some r∧(∀id,v.has id=true→cd id cs=true)∧∀(μ:Ro)(φ:Nat→aA)(w:World)(xs:Array Value),cs.length=xs.size→(∀(i:Nat)p x,cs[i]?=some p→xs[i]?=some x→ag E.P μ φ p x)→(∀(i:Nat)(x:Value),xs[i]?=some x→x.oneCell'=true)→∃z,(part t xs off).run E.P w=.ok z w∧ag E.P μ φ v z:=by
 unfold C2 at h;split at h
 ·rename_i ha;split at h
  ·rename_i hn;refine⟨_,fun R' k'=>by simp[C2,ha,hn],h,fun id hid=>?_,fun μ φ w xs h1 h2 h3=>⟨_,zj ha,?_⟩⟩
   ·simp only[V.has]at hid;obtain⟨v,hv,hh⟩:=cC.1 hid;grind [bH,List.mem_of_mem_drop,List.mem_of_mem_take]
   ·refine .agg (by simp;omega) (fun i p x hi hx=>?_) (fun i x hx=>?_)
    ·grind
    grind [Array.getElem?_extract]
  ·cases h
 ·rename_i ha;have ha:ax E.P t=false:=by simpa using ha
  split at h
  ·rename_i v hv;obtain⟨u,h1,h2,h3,h4⟩:=JL h;obtain⟨d,hu⟩:=FN h;refine⟨u,fun R' k'=>by simp[C2,ha,hv,h1],h2,fun id hid=>bH (abV hv) (h4 id hid),fun μ φ w xs g1 g2 g3=>?_⟩;have bT:off<cs.length:=(AT.1 hv).1;have hx:xs[off]?=some xs[off]:=IN (by omega);grind [zk]
  ·cases h
theorem RP(h:C3 E s x j k=some r):∃v,(∀(R':Type)(k':V→Option R'),C3 E s x j k'=k' v)∧k v=some r∧(∀id,v.has id=true→x.has id=true)∧∀(μ:Ro)(φ:Nat→aA)(w:World)(y:Value),ag E.P μ φ x y→∃z,(Instr.field s y j).run E.P w=.ok z w∧ag E.P μ φ v z:=by
 unfold C3 at h;split at h
 ·rename_i o t cs ho hc;obtain⟨fs,f,hu,hf,rfl,rfl,hz⟩:=BM ho;obtain⟨v,h1,h2,h3,h4⟩:=JN h;obtain⟨c1,c2⟩:=nH hc;refine⟨v,fun R' k'=>by simp[C3,ho,hc,h1],h2,fun id hid=>c1 id (h3 id hid),fun μ φ w y hy=>?_⟩;obtain⟨xs,rfl,g1,g2,g3⟩:=c2 _ _ _ _ hy;obtain⟨z,hz,hv⟩:=h4 μ φ w xs g1 g2 g3;exact⟨z,by simp[Instr.field,run_underlying hu,hf,Go.asAgg,hz],hv⟩
 ·cases h
theorem wf_u8(b:UInt8):(Lit.int .u8 b.toNat).wf=true:=by rw[lP];have:=b.toNat_lt;simp[IntKind.min,IntKind.max,IntKind.signed,IntKind.bits];omega
theorem RQ{ix:V}(h:AE E t x ix k=some r):∃v,(∀(R':Type)(k':V→Option R'),AE E t x ix k'=k' v)∧k v=some r∧(∀id,v.has id=true→x.has id=true)∧∀(μ:Ro)(φ:Nat→aA)(w:World)(y z:Value),ag E.P μ φ x y→ag E.P μ φ ix z→∃u,(Instr.index t y z).run E.P w=.ok u w∧ag E.P μ φ v u:=by
 unfold AE at h;split at h
 ·rename_i q i;split at h
  ·rename_i s hu;obtain⟨b,hb,hk⟩:=cQ.1 h;refine⟨_,fun R' k'=>by simp[AE,hu,hb],hk,by simp,fun μ φ w y z hy hz=>?_⟩;cases hz with
   |pv hz=>cases hz with
    |int zi=>
     cases hy with
     |pv hy=>cases hy with
      |str hl=>
       unfold RI at hb;split at hb
       ·rename_i h0;have bT:=(AT.1 hb).1;have gN:(⟨s.toArray⟩:ByteArray)[i.toNat]?=some b:=by
         rw[getElem?_def];have:i.toNat<(⟨s.toArray⟩:ByteArray).size:=by simpa[ByteArray.size]using bT
         rw[alB this];have e:=(AT.1 hb).2;simp only[cN];rw[←e];rfl
        refine⟨_,?_,.pv (.int (wf_u8 b))⟩;simp[Instr.index,asIntOf,run_underlying hu,h0,gN]
       ·cases hb
  ·rename_i n et hu;split at h
   ·rename_i cs hc;split at h
    ·rename_i hn;obtain⟨v,h1,h2,h3,h4⟩:=JN h;obtain⟨c1,c2⟩:=nH hc;refine⟨v,fun R' k'=>by simp only[AE,hu,hc];rw[AI hn,h1],h2,fun id hid=>c1 id (h3 id hid),fun μ φ w y z hy hz=>?_⟩;obtain⟨xs,rfl,g1,g2,g3⟩:=c2 _ _ _ _ hy;obtain⟨u,hu1,hv⟩:=h4 μ φ w xs g1 g2 g3;cases hz with
     |pv hz=>cases hz with
      |int zi=>refine⟨u,?_,hv⟩;have hr:=hn.1;unfold aj at hr;simp[Instr.index,asIntOf,run_underlying hu,hr.1,hr.2,iA (show aQ E.P et≠0 by omega),hu1]
    ·cases h
   ·cases h
  ·cases h
 ·cases h
end
section
variable {R:Type} {E:Env}
theorem Dh(s:Bytes):(⟨s.toArray⟩:ByteArray).size=s.length:=by rfl
theorem Di{n:Nat}(h:n≤maxLen):(Lit.int .i64 (n:Int)).wf=true:=by grind [lP,maxLen,IntKind.min,IntKind.max,IntKind.signed,IntKind.bits]
variable{P:Program}{μ:Ro}{sz:Nat}{es:List PV}
theorem Z8{x:Value}(h:ah P μ (.rs sz es) x):∃a cap,x=.slice a es.length cap∧es.length≤maxLen:=by
 cases h with
 |jL=>simp
 | @Jm _ cap a h=>simp
 |rs X h1 h2=>grind
variable{φ:Nat→aA}{m:Mem}{w:World}
theorem av.arr{G:Nat→Option (List PV)}{w0:bw}(hM:av P G w0 μ φ m w){id s:Nat}{et:TypeId}(hm:m id=some (.arr s et es)∨m id=some (.pt s et es)):aH P μ φ w id s et es:=by
 rcases hm with hm|hm
 ·exact hM.dw id _ hm
 ·exact(hM.dw id _ hm).1
theorem aH.nI{id s:Nat}{et:TypeId}(h:aH P μ φ w id s et es):es.length≤(φ id).cap∧(φ id).cap≤maxLen:=by obtain⟨a1,a2,a3,a4,a5,a6,a7⟩:=h;grind
variable{x:V}{k:Nat→bq→Option R}{r:R}
theorem W9(h:Fa m x k=some r):∃n ft,(∀m2:Mem,(∀x∈ft,m2 x.2=m x.2)→∀(R':Type)(k':Nat→bq→Option R'),Fa m2 x k'=k' n ft)∧k n ft=some r∧(∀x∈ft,x.1=false)∧∀(P:Program)(G:Nat→Option (List PV))(w0:bw)(μ:Ro)(φ:Nat→aA)(w:World)(y:Value),av P G w0 μ φ m w→ag P μ φ x y→(∀id,x.has id=true→(m id).isSome=true)→n≤maxLen∧∃a cap,y=.slice a n cap:=by
 unfold Fa at h;split at h
 ·refine⟨_,_,fun m2 _ R' k'=>by rfl,h,by simp,fun P G w0 μ φ w y hM hy _=>?_⟩;cases hy with
  |pv hy=>obtain⟨a,cap,rfl,hl⟩:=Z8 hy;simp_all
 ·refine⟨_,_,fun m2 _ R' k'=>by rfl,h,by simp,fun P G w0 μ φ w y hM hy _=>?_⟩;cases hy;simp
 ·rename_i id lo len;have key:∀(s:Nat)(et:TypeId)(es:List PV),(m id=some (.arr s et es)∨m id=some (.pt s et es))→∀(P:Program)(G:Nat→Option (List PV))(w0:bw)(μ:Ro)(φ:Nat→aA)(w:World)(y:Value),av P G w0 μ φ m w→ag P μ φ (.fq id lo len) y→len≤maxLen∧∃a cap,y=.slice a len cap:=by
   intro s et es hm P G w0 μ φ w y hM hy;have hA:=hM.arr hm;have hl:=hA.nI;cases hy with
   |pL=>simp
   |fq hg Mm ha=>grind
  split at h
  ·rename_i s et es hm;exact⟨_,_,fun m2 cL R' k'=>by have:=cL (false,id) (by simp);simp_all[Fa],h,by simp,fun P G w0 μ φ w y hM hy _=>key s et es (.inl hm) P G w0 μ φ w y hM hy⟩
  ·rename_i s et es hm;exact⟨_,_,fun m2 cL R' k'=>by have:=cL (false,id) (by simp);simp_all[Fa],h,by simp,fun P G w0 μ φ w y hM hy _=>key s et es (.inr hm) P G w0 μ φ w y hM hy⟩
  ·cases h
 ·rename_i id;split at h
  ·rename_i s et es hm;refine⟨_,_,fun m2 cL R' k'=>by have:=cL (false,id) (by simp);simp_all[Fa],h,by simp,fun P G w0 μ φ w y hM hy _=>?_⟩;have hA:=hM.arr (.inl hm);have hl:=hA.nI;obtain⟨a1,a2,a3,a4,a5,a6,a7⟩:=hA;refine⟨by omega,?_⟩;cases hy with
   |qY hg=>simp_all
   |os hg=>simp_all
  ·rename_i s et es hm;refine⟨_,_,fun m2 cL R' k'=>by have:=cL (false,id) (by simp);simp_all[Fa],h,by simp,fun P G w0 μ φ w y hM hy _=>?_⟩;have hA:=hM.arr (.inr hm);have hl:=hA.nI;obtain⟨a1,a2,a3,a4,a5,a6,a7⟩:=hA;refine⟨by omega,?_⟩;cases hy with
   |qY hg=>simp_all
   |os hg=>simp_all
  ·rename_i s et es hm;refine⟨_,_,fun m2 cL R' k'=>by have:=cL (false,id) (by simp);simp_all[Fa],h,by simp,fun P G w0 μ φ w y hM hy _=>?_⟩;have hA:aW P μ φ w id s et es:=hM.dw id _ hm;obtain⟨a1,a2,a3,a4,a5,a6,a7⟩:=hA;have hl:es.length≤(φ id).cap:=by grind
   refine⟨by omega,?_⟩;cases hy with
   |qY hg=>simp_all
   |os hg=>simp_all
  ·rename_i cs hm;split at h
   ·rename_i hlen;refine⟨_,_,fun m2 cL R' k'=>by have:=cL (false,id) (by simp);simp_all[Fa],h,by simp,fun P G w0 μ φ w y hM hy _=>?_⟩;obtain⟨g,c,T,hg,hh,hs,hv,sI,CJ⟩:=hM.dw id _ hm;refine⟨hlen,?_⟩;cases hy with
    |qY cv=>simp_all
    |os cv=>simp_all
   ·cases h
  ·cases h
 ·cases h
theorem Xa(h:RJ sz m x k=some r):∃n ft,(∀m2:Mem,(∀x∈ft,m2 x.2=m x.2)→∀(R':Type)(k':Nat→bq→Option R'),RJ sz m2 x k'=k' n ft)∧k n ft=some r∧(∀x∈ft,x.1=false)∧∀(P:Program)(G:Nat→Option (List PV))(w0:bw)(μ:Ro)(φ:Nat→aA)(w:World)(y:Value),av P G w0 μ φ m w→ag P μ φ x y→(∀id,x.has id=true→(m id).isSome=true)→n≤maxLen∧∃a cap,y=.slice a n cap:=by
 unfold RJ at h;split at h
 ·rename_i id i off;split at h
  ·rename_i s et es hm;obtain⟨e,he,h⟩:=cQ.1 h;obtain⟨rs,hr,h⟩:=cQ.1 h;refine⟨_,_,fun m2 cL R' k'=>by have:=cL (false,id) (by simp);simp_all[RJ],h,by simp,fun P G w0 μ φ w y hM hy _=>?_⟩;have hN:aW P μ φ w id s et es:=hM.dw id _ hm;obtain⟨_,_,_,_,⟨⟨E2,hA⟩,_⟩,_⟩:=hN.row he hr;have hl:=hA.nI;have a1:=hA.1;refine⟨by omega,?_⟩;have hy:=hy.MI (ν:=μ);cases hy with
   |qY hg=>have a7:=hA.2.2.2.2.2.2;simp_all
   |os hg=>simp_all
  ·cases h
 ·rename_i dh;obtain⟨n,ft,h1,h2,h3,h4⟩:=W9 h;refine⟨n,ft,fun m2 cL R' k'=>?_,h2,h3,h4⟩;unfold RJ;simp_all
theorem Xb(h:TS m x k=some r):∃n ft,(∀m2:Mem,(∀x∈ft,m2 x.2=m x.2)→∀(R':Type)(k':Nat→bq→Option R'),TS m2 x k'=k' n ft)∧k n ft=some r∧(∀x∈ft,x.1=false)∧n≤maxLen∧∀(P:Program)(G:Nat→Option (List PV))(w0:bw)(μ:Ro)(φ:Nat→aA)(w:World)(y:Value)(t kt et ty:TypeId),P.underlying t=some (.map kt et)→av P G w0 μ φ m w→ag P μ φ x y→(Builtin.len_ #[t] ty #[y]).run P w=.ok (.int .i64 n) w:=by
 unfold TS at h;split at h
 ·rename_i id;split at h
  ·rename_i kt es hm;split at h
   ·rename_i hl;refine⟨_,_,fun m2 cL R' k'=>by have:=cL (false,id) (by simp);simp_all[TS],h,by simp,hl,fun P G w0 μ φ w y t kt et ty hu hM hy=>?_⟩;cases hy with
    | @om _ g hg=>obtain⟨g',en,clock,kk,cv,hh,hs,_⟩:=hM.dw id _ hm;simp_all[cN,Builtin.len_,run_underlying,getObj,Sem.run,goInt]
   ·cases h
  ·cases h
 ·refine⟨_,_,fun m2 _ R' k'=>by rfl,h,by simp,by simp,fun P G w0 μ φ w y t kt et ty hu hM hy=>?_⟩;cases hy with
  |pv hy=>cases hy;simp[Builtin.len_,run_underlying hu,goInt]
 ·cases h
variable{t:TypeId}
theorem Xc{k:V→bq→Option R}(h:Jw E t x m k=some r):∃v ft,(∀m2:Mem,(∀x∈ft,m2 x.2=m x.2)→∀(R':Type)(k':V→bq→Option R'),Jw E t x m2 k'=k' v ft)∧k v ft=some r∧(∀x∈ft,x.1=false)∧(∀id,v.has id=false)∧∀(G:Nat→Option (List PV))(w0:bw)(μ:Ro)(φ:Nat→aA)(w:World)(y:Value)(ty:TypeId),av E.P G w0 μ φ m w→ag E.P μ φ x y→(∀id,x.has id=true→(m id).isSome=true)→∃z,(Builtin.len_ #[t] ty #[y]).run E.P w=.ok z w∧ag E.P μ φ v z:=by
 unfold Jw at h;split at h
 ·rename_i n e hu;split at h
  ·rename_i hn;exact⟨_,_,fun m2 _ R' k'=>by simp[Jw,hu,hn],h,by simp,by simp,fun G w0 μ φ w y ty hM hy _=>⟨_,by simp[Builtin.len_,run_underlying hu,goInt],.pv (.int (Di hn))⟩⟩
  ·cases h
 ·rename_i hu;split at h
  ·refine⟨_,_,fun m2 _ R' k'=>by simp[Jw,hu],h,by simp,by simp,fun G w0 μ φ w y ty hM hy _=>?_⟩;cases hy with
   |pv hy=>cases hy with
    | @str s hl=>exact⟨_,by simp[Builtin.len_,run_underlying hu,goInt,Dh],.pv (.int (Di hl))⟩
  ·cases h
 ·rename_i e hu;obtain⟨n,ft,h1,h2,h3,h4⟩:=Xa h;refine⟨_,ft,fun m2 cL R' k'=>by simp only[Jw,hu];rw[h1 m2 cL],h2,h3,by simp,fun G w0 μ φ w y ty hM hy hq=>?_⟩;obtain⟨hl,a,cap,rfl⟩:=h4 _ _ _ _ _ _ _ hM hy hq;exact⟨_,by simp[Builtin.len_,run_underlying hu,goInt],.pv (.int (Di hl))⟩
 ·rename_i kt et hu;obtain⟨n,ft,h1,h2,h3,hl,h4⟩:=Xb h;refine⟨_,ft,fun m2 cL R' k'=>by simp only[Jw,hu];rw[h1 m2 cL],h2,h3,by simp,fun G w0 μ φ w y ty hM hy hq=>?_⟩;exact⟨_,h4 _ _ _ _ _ _ _ _ _ _ _ hu hM hy,.pv (.int (Di hl))⟩
 ·cases h
theorem Dj{d i:Int}{v:Option V}(h:iM d v=some i):(v=none∧i=d)∨∃q,v=some (.pv (.int q i)):=by unfold iM at h;grind
theorem run_sliceBound{P:Program}{w:World}{q:IntKind}{i:Int}{y:Nat}{code:BoundsCode}(h0:0≤i)(h1:i≤(y:Int)):(Instr.sliceBound (.int q i) y code).run P w=.ok i.toNat w:=by simp[Instr.sliceBound,asIntOf,h0,h1]
variable{Dk oc:Option Value}
theorem kC{isS:Bool}{len cap:Nat}{l h:Int}{lo hi:Option V}(hl:iM 0 lo=some l)(hh:iM len hi=some h)(rl:∀v,lo=some v→∃y,Dk=some y∧ag P μ φ v y)(rl0:lo=none→Dk=none)(rh:∀v,hi=some v→∃y,oc=some y∧ag P μ φ v y)(rh0:hi=none→oc=none)(b0:0≤l)(b1:l≤h)(b2:h≤(len:Int))(b3:len≤cap):(Instr.sliceBounds isS len cap Dk oc none).run P w=.ok (l.toNat,h.toNat,cap) w:=by
 have e1:∃y,(oc=none∧h=len)∨(oc=some y∧∃q,y=.int q h):=by
  rcases Dj hh with⟨rfl,rfl⟩|⟨q,rfl⟩
  ·simp_all
  ·obtain⟨y,rfl,hy⟩:=rh _ rfl;cases hy with
   |pv hy=>cases hy with
    |int hw=>simp
 have e2:∃y,(Dk=none∧l=0)∨(Dk=some y∧∃q,y=.int q l):=by
  rcases Dj hl with⟨rfl,rfl⟩|⟨q,rfl⟩
  ·simp_all
  ·obtain⟨y,rfl,hy⟩:=rl _ rfl;cases hy with
   |pv hy=>cases hy with
    |int hw=>simp
 clear rl rl0 rh rh0 hl hh;obtain⟨y,⟨rfl,rfl⟩|⟨rfl,q,rfl⟩⟩:=e1<;>obtain⟨z,⟨rfl,rfl⟩|⟨rfl,q',rfl⟩⟩:=e2
 ·rfl
 ·simp_all[run_sliceBound,Instr.sliceBounds]
 ·have:= @run_sliceBound P w q h cap (if isS then BoundsCode.sliceAcap else .sliceAlen) (by omega) (by omega);simp[Instr.sliceBounds,this]
 ·have h1:= @run_sliceBound P w q h cap (if isS then BoundsCode.sliceAcap else .sliceAlen) (by omega) (by omega);have h2:= @run_sliceBound P w q' l h.toNat BoundsCode.sliceB b0 (by omega);simp[Instr.sliceBounds,h1,h2]
theorem str_slice{s:Bytes}{l h:Nat}(hl:l≤h)(hh:h≤s.length):(⟨s.toArray⟩:ByteArray).extract l h=⟨((s.take h).drop l).toArray⟩:=by apply ByteArray.ext;simp[ByteArray.data_extract,ajZ,akV,List.drop_take]
theorem T9{x:Value}{l h:Nat}(hx:ah P μ (.rs sz es) x)(hl:l≤h)(hh:h≤es.length):∃a cap,x=.slice a es.length cap∧es.length≤cap∧ah P μ (.rs sz ((es.take h).drop l)) (.slice (if cap=l then a else a.map (·.add (l*sz))) (h-l) (cap-l)):=by
 have hlen:((es.take h).drop l).length=h-l:=by simp;omega
 cases hx with
 |jL=>
  simp at hh;subst hh;have:l=0:=by omega
  subst this;exact⟨none,0,rfl,by simp,by simpa using ah.jL⟩
 | @Jm _ cap a hc=>
  simp at hh;subst hh;have:l=0:=by omega
  subst this;refine⟨some a,cap,rfl,by simp,?_⟩;have:(if cap=0 then some a else(some a).map (·.add (0*sz)))=some a:=by split<;>simp[Addr.add]
  rw[this];exact .Jm hc
 | @rs _ _ b o cap X h1 h2 h3 h4 h5 h6=>
  refine⟨_,cap,rfl,h1,?_⟩;have fh:∀(i:Nat)e,((es.take h).drop l)[i]?=some e→es[l+i]?=some e:=fun i e hi=>(eA (pO hi)).2;by_cases hz:h=l
  ·have:(es.take h).drop l=[]:=ahk (by omega);rw[this];have Ua:h-l=0:=by omega
   rw[Ua];split
   ·exact .Jm (by omega)
   ·simp only[aff];exact .Jm (by omega)
  ·have hc:cap≠l:=by omega
   rw[By hc];simp only[aff,Addr.add_mid];have:=ah.rs (P:=P) (μ:=μ) (sz:=sz) (es:=(es.take h).drop l) (b:=b) (o:=o+l*sz) (cap:=cap-l) (fun i j=>X (l+i) j) (by omega) (by omega) (fun i e hi=>h3 _ e (fh i e hi)) (fun i e j p hi hj=>by grind) (fun i e j p hi hj=>h5 _ e j p (fh i e hi) hj) (fun i e j p hi hj=>h6 _ e j p (fh i e hi) hj);simp_all
theorem tA{e:TypeId}{a:Option Addr}{len cap l h:Nat}(hu:P.underlying t=some (.slice e))(hz:aQ P e≠0)(hb:(Instr.sliceBounds true len cap Dk oc none).run P w=.ok (l,h,cap) w):(Instr.sliceAt t (.slice a len cap) Dk oc none).run P w=.ok (.slice (if cap=l then a else a.map (·.add (l*aQ P e))) (h-l) (cap-l)) w:=by simp_all[Instr.sliceAt,Instr.slice,run_underlying,iA]
theorem RR{lo hi mx:Option V}{k:V→bq→Option R}(h:tt E t x lo hi mx m k=some r):∃v ft,(∀m2:Mem,(∀x∈ft,m2 x.2=m x.2)→∀(R':Type)(k':V→bq→Option R'),tt E t x lo hi mx m2 k'=k' v ft)∧k v ft=some r∧(∀x∈ft,x.1=false)∧(∀id,v.has id=true→x.has id=true)∧∀(G:Nat→Option (List PV))(w0:bw)(μ:Ro)(φ:Nat→aA)(w:World)(y:Value)(Dk oc YX:Option Value),av E.P G w0 μ φ m w→ag E.P μ φ x y→(∀v,lo=some v→∃y,Dk=some y∧ag E.P μ φ v y)→(lo=none→Dk=none)→(∀v,hi=some v→∃y,oc=some y∧ag E.P μ φ v y)→(hi=none→oc=none)→(∀v,mx=some v→∃y,YX=some y∧ag E.P μ φ v y)→(mx=none→YX=none)→∃z,(Instr.sliceAt t y Dk oc YX).run E.P w=.ok z w∧ag E.P μ φ v z:=by
 unfold tt at h;split at h
 ·rename_i mv;split at h
  ·rename_i e id hu;split at h
   ·rename_i s et es hm;split at h
    ·rename_i qh hh qc c;split at h
     ·rename_i hb;refine⟨_,_,fun m2 cL R' k'=>by have:=cL (false,id) (by simp);simp_all[tt,AI],h,by simp,by simp[V.has],fun G w0 μ φ w y Dk oc YX hM hy r1 r2 r3 r4 r5 r6=>?_⟩;have hA:=hM.arr (.inl hm);have hle:=hA.nI;obtain⟨a1,a2,a3,a4,a5,a6,a7⟩:=hA;obtain⟨ym,rfl,hym⟩:=r5 _ rfl;have hlo:=r2 rfl;subst hlo;cases hym with
      |pv hym=>cases hym with
       |int hwc=>
        have hB:∀len cap:Nat,len=es.length→c≤(cap:Int)→(Instr.sliceBounds true len cap none oc (some (.int qc c))).run E.P w=.ok (0,hh.toNat,c.toNat) w:=by
         intro len cap hlen od;have h1:= @run_sliceBound E.P w qc c cap BoundsCode.slice3Acap (by omega) od;obtain⟨yh,rfl,hyh⟩:=r3 _ rfl;cases hyh with
         |pv hyh=>cases hyh with
          |int hwh=>have h2:= @run_sliceBound E.P w qh hh c.toNat BoundsCode.slice3B (by omega) (by omega);simp[Instr.sliceBounds,h1,h2]
        have hS:∀(a:Option Addr)(len cap:Nat),len=es.length→c≤(cap:Int)→(Instr.sliceAt t (.slice a len cap) none oc (some (.int qc c))).run E.P w=.ok (.slice (if c.toNat=0 then a else a.map (·.add (0*aQ E.P e))) hh.toNat c.toNat) w:=by intro a len cap hlen od;simp[Instr.sliceAt,Instr.slice,run_underlying hu,hB len cap hlen od,iA (show aQ E.P e≠0 by omega)]
        cases hy with
        |qY hg=>
         rw[hg]at a7;have h0:es.length=0:=by omega
         refine⟨_,hS none 0 0 h0.symm (by omega),?_⟩;have e1:hh.toNat=0:=by omega
         have e2:c.toNat=0:=by omega
         rw[e1,e2];exact .pL hg
        | @os _ g hg=>
         refine⟨_,hS _ _ _ a1 (by omega),?_⟩;have:(if c.toNat=0 then some (⟨g,0,none⟩:Addr)else(some ⟨g,0,none⟩:Option Addr).map (·.add (0*aQ E.P e)))=some ⟨g,0*(φ id).sz,none⟩:=by split<;>simp[Addr.add]
         rw[this];exact .fq hg (by omega) (.inl rfl) (by omega) (by omega)
     ·cases h
    ·cases h
   ·cases h
  ·cases h
 ·split at h
  ·rename_i s hu;split at h
   ·rename_i l hh hl WI;split at h
    ·rename_i hb;refine⟨_,_,fun m2 _ R' k'=>by simp_all[tt,AI],h,by simp,by simp,fun G w0 μ φ w y Dk oc YX hM hy r1 r2 r3 r4 _ r6=>?_⟩;have hmx:=r6 rfl;subst hmx;cases hy with
     |pv hy=>cases hy with
      |str hlen=>have hB:=kC (P:=E.P) (w:=w) (isS:=false) (cap:=s.length) hl WI r1 r2 r3 r4 hb.1 hb.2.1 hb.2.2 (aiJ _);refine⟨_,?_,.pv (.str (s:=(s.take hh.toNat).drop l.toNat) (by simp;omega))⟩;simp only[Instr.sliceAt,Instr.slice,Sem.run_bind,run_underlying hu,Result.andThen_ok,Dh,hB];simp only[akQ,cT,T1,Sem.run_bind,Sem.run_pure,Result.andThen_ok,hB];rw[str_slice (by omega) (by omega)]
    ·cases h
   ·cases h
  ·rename_i e sz es hu;split at h
   ·rename_i l hh hl WI;split at h
    ·rename_i hb;refine⟨_,_,fun m2 _ R' k'=>by simp_all[tt,AI],h,by simp,by simp,fun G w0 μ φ w y Dk oc YX hM hy r1 r2 r3 r4 _ r6=>?_⟩;have hmx:=r6 rfl;subst hmx;cases hy with
     |pv hy=>obtain⟨a,cap,rfl,hc,hr⟩:=T9 (l:=l.toNat) (h:=hh.toNat) hy (by omega) (by omega);have hB:=kC (P:=E.P) (w:=w) (isS:=true) (cap:=cap) hl WI r1 r2 r3 r4 hb.1 hb.2.1 hb.2.2.1 hc;exact⟨_,tA hu hb.2.2.2.2 hB,by rw[←hb.2.2.2.1];exact .pv hr⟩
    ·cases h
   ·cases h
  ·rename_i e id hu;have key:∀(s:Nat)(et:TypeId)(es:List PV)(l hh:Int),(m id=some (.arr s et es)∨m id=some (.pt s et es))→iM 0 lo=some l→iM es.length hi=some hh→(0≤l∧l≤hh∧hh≤(es.length:Int)∧s=aQ E.P e)→∀(G:Nat→Option (List PV))(w0:bw)(μ:Ro)(φ:Nat→aA)(w:World)(y:Value)(Dk oc:Option Value),av E.P G w0 μ φ m w→ag E.P μ φ (.os id) y→(∀v,lo=some v→∃y,Dk=some y∧ag E.P μ φ v y)→(lo=none→Dk=none)→(∀v,hi=some v→∃y,oc=some y∧ag E.P μ φ v y)→(hi=none→oc=none)→∃z,(Instr.sliceAt t y Dk oc none).run E.P w=.ok z w∧ag E.P μ φ (.fq id l.toNat (hh.toNat-l.toNat)) z:=by
    intro s et es l hh hm hl WI hb G w0 μ φ w y Dk oc hM hy r1 r2 r3 r4;have hA:=hM.arr hm;have hle:=hA.nI;obtain⟨a1,a2,a3,a4,a5,a6,a7⟩:=hA;cases hy with
    |qY hg=>
     rw[hg]at a7;have h0:es.length=0:=by omega
     have hB:=kC (P:=E.P) (w:=w) (isS:=true) (cap:=0) hl WI r1 r2 r3 r4 hb.1 hb.2.1 hb.2.2.1 (by omega);rw[h0]at hB;refine⟨_,tA hu (by omega) hB,?_⟩;have e1:l.toNat=0:=by omega
     have e2:hh.toNat=0:=by omega
     rw[e1,e2];exact .pL hg
    | @os _ g hg=>
     have hB:=kC (P:=E.P) (w:=w) (isS:=true) (cap:=(φ id).cap) hl WI r1 r2 r3 r4 hb.1 hb.2.1 hb.2.2.1 (by omega);rw[←a1]at hB;refine⟨_,tA hu (by omega) hB,?_⟩;by_cases hc:(φ id).cap=l.toNat
     ·rw[AI hc];by_cases h0:l.toNat=0
      ·rw[h0];exact .fq hg (by omega) (.inl (by simp)) (by omega) (by omega)
      ·exact .fq hg (by omega) (.inr ⟨hc,by omega⟩) (by omega) (by omega)
     ·rw[By hc];simp only[aff,Addr.add_mid,ajk];refine .fq hg (by omega) (.inl ?_) (by omega) (by omega);rw[a2,hb.2.2.2]
   split at h
   ·rename_i s et es hm;split at h
    ·rename_i l hh hl WI;split at h
     ·rename_i hb;exact⟨_,_,fun m2 cL R' k'=>by have:=cL (false,id) (by simp);simp_all[tt,AI],h,by simp,by simp[V.has],fun G w0 μ φ w y Dk oc YX hM hy r1 r2 r3 r4 _ r6=>by rw[r6 rfl];exact key s et es l hh (.inl hm) hl WI hb G w0 μ φ w y Dk oc hM hy r1 r2 r3 r4⟩
     ·cases h
    ·cases h
   ·rename_i s et es hm;split at h
    ·rename_i l hh hl WI;split at h
     ·rename_i hb;exact⟨_,_,fun m2 cL R' k'=>by have:=cL (false,id) (by simp);simp_all[tt,AI],h,by simp,by simp[V.has],fun G w0 μ φ w y Dk oc YX hM hy r1 r2 r3 r4 _ r6=>by rw[r6 rfl];exact key s et es l hh (.inr hm) hl WI hb G w0 μ φ w y Dk oc hM hy r1 r2 r3 r4⟩
     ·cases h
    ·cases h
   ·cases h
  ·cases h
end
end Go.Ab
