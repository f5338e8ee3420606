import Derived.Test.YtoaknfoobjnjgaaGreatAbEval
import Derived.Below
import Derived.Laws.CopyRow
import Derived.Deep.MidRow
set_option linter.all false
namespace Go.Ab
open Go.RowKit (Below)
abbrev Ro:=Nat→Option Obj
def ado:Bool:=true
structure lh(B:Nat)(w w':World):Prop extends Below B w w' where
 drawn:ado=true→w.drawn≤w'.drawn
namespace lh
theorem refl(B:Nat)(w:World):lh B w w:=⟨Below.refl B w,fun _=>aoa _⟩
theorem trans{B:Nat}{a b c:World}(h:lh B a b)(k:lh B b c):lh B a c:=⟨h.toBelow.trans k.toBelow,fun u=>aov (h.drawn u) (k.drawn u)⟩
theorem mono{B B':Nat}{w w':World}(h:lh B w w')(hB:B'≤B):lh B' w w':=⟨h.toBelow.mono hB,h.drawn⟩
theorem drew{B:Nat}{a w:World}(h:lh B a w):lh B a w.drew:=⟨h.toBelow.drew,fun u=>Nat.le_succ_of_le (h.drawn u)⟩
theorem heap_alloc(w:World)(o:Obj)(k:Nat)(h:k<w.heap.size):(w.alloc o).heap[k]?=w.heap[k]?:=Below.heap_alloc w o k h
theorem alloc{B:Nat}{a w:World}(h:lh B a w)(hB:B≤w.heap.size)(o:Obj):lh B a (w.alloc o):=⟨h.toBelow.alloc hB o,h.drawn⟩
end lh
def Jmp.code:Jmp→Code
 |.ret=>.ret
 |.exit id=>.exit id
def Q9.obj(rc:Loop):Q9→Loop
 |.ready=>{rc with state:=.ready,pending:=none}
 |.busy=>{rc with state:=.busy,pending:=none}
 |.done j=>{rc with state:=.done,pending:=some j.code}
def cellAt(μ:Ro)(b o:Nat):Option Value:=match μ b with|some (.cells c _ _)=>c[o]?|_=>none
def Er(f:FuncId)(xs:Array Value):Value:=if f<Ic then .func (.func f) #[] xs else .func (.func (f-Ic)) xs #[]
variable{xs:Array Value}
theorem uk{f:FuncId}(h:Nat.blt f Ic=true):Er f xs=.func (.func f) #[] xs:=No (by rwa[ao9]at h)
theorem OX{f:FuncId}(h:Nat.blt f Ic=false):Er f xs=.func (.func (f-Ic)) xs #[]:=QU (by rw[←aoZ,ao9]at h;omega)
theorem oF(f:FuncId)(xs:Array Value):∃g a b,Er f xs=.func (.func g) a b:=by
 unfold Er;split
 ·simp
 simp
theorem Ll(f:FuncId)(xs:Array Value):(Er f xs).oneCell'=true:=by obtain⟨g,a,b,h⟩:=oF f xs;rw[h];rfl
inductive aq(P:Program)(μ:Ro):PV→Value→Prop
 |int {k:IntKind} {n:Int}:(Lit.int k n).wf=true→aq P μ (.int k n) (.int k n)
 |bool {b:Bool}:aq P μ (.bool b) (.bool b)
 |str {s:Bytes}:s.length≤maxLen→aq P μ (.str s) (.string ⟨s.toArray⟩)
 |agg {cs:List PV} {xs:Array Value}:cs.length=xs.size→(∀(i:Nat)p x,cs[i]?=some p→xs[i]?=some x→aq P μ p x)→(∀(i:Nat)(x:Value),xs[i]?=some x→x.oneCell'=true)→aq P μ (.agg cs) (.agg xs)
 |aI {cs:List PV} {xs:Array Value}:cs.length=xs.size→(∀(i:Nat)p x,cs[i]?=some p→xs[i]?=some x→aq P μ p x)→aq P μ (.aI cs) (.tuple xs)
 |ig:aq P μ .ig (.pointer none)
 |rp {cs:List PV} {b o:Nat} (X:Nat→Value):(∀(i:Nat)p,cs[i]?=some p→cellAt μ b (o+i)=some (X i))→(∀(i:Nat)p,cs[i]?=some p→aq P μ p (X i))→(∀i:Nat,i<cs.length→(X i).oneCell'=true)→aq P μ (.rp cs) (.pointer (some ⟨b,o,none⟩))
 |l5 {sz:Nat}:aq P μ (.rs sz []) (.slice none 0 0)
 |Ox {sz cap:Nat} {a:Addr}:cap≤maxLen→aq P μ (.rs sz []) (.slice (some a) 0 cap)
 |rs {sz:Nat} {es:List PV} {b o cap:Nat} (X:Nat→Nat→Value):es.length≤cap→cap≤maxLen→(∀(i:Nat)e,es[i]?=some e→e.cells.length=sz)→(∀(i:Nat)e(j:Nat)p,es[i]?=some e→e.cells[j]?=some p→cellAt μ b (o+i*sz+j)=some (X i j))→(∀(i:Nat)e(j:Nat)p,es[i]?=some e→e.cells[j]?=some p→aq P μ p (X i j))→(∀(i:Nat)e(j:Nat)p,es[i]?=some e→e.cells[j]?=some p→(X i j).oneCell'=true)→aq P μ (.rs sz es) (.slice (some ⟨b,o,none⟩) es.length cap)
 |od:aq P μ .od (.map none)
 |rm {kt:TypeId} {ks vs:List PV} {b clock:Nat} {en:Array MapEntry} {kk:List Kd}:μ b=some (.map en clock)→en.size=ks.length→vs.length=ks.length→vS P kt=some kk→(∀(i:Nat)k,ks[i]?=some k→Af P kt kk k=true)→(∀(i:Nat)k e,ks[i]?=some k→en[i]?=some e→aq P μ k e.key)→(∀(i:Nat)v e,vs[i]?=some v→en[i]?=some e→aq P μ v e.val)→aq P μ (.rm kt ks vs) (.map (some b))
 |CJ:aq P μ .CJ .nilFunc
 |fn {f:FuncId} {cs:List PV} {xs:Array Value}:cs.length=xs.size→(∀(i:Nat)p x,cs[i]?=some p→xs[i]?=some x→aq P μ p x)→aq P μ (.fn f cs) (Er f xs)
 |Za:aq P μ (.Wm false) .nilIface
 |adp {t:TypeId} {x:Value}:aq P μ (.Wm true) (.iface t x)
 |bad {x:Value}:aq P μ .bad x
structure CU(P:Program)(μ:Ro)(g:Nat)(cs:List PV):Prop where
 rep:aq P μ (.rp cs) (.pointer (some ⟨g,0,none⟩))
 size:∃c T z,μ g=some (.cells c T z)∧c.size=cs.length
structure GS where
 g:Option Nat
 cap:Nat
 len:Nat
 sz:Nat
 deriving Inhabited
structure aH extends GS where
 row:Nat→Nat→GS:=fun _ _=>default
 deriving Inhabited
abbrev GU(g:Option Nat)(cap len sz:Nat):aH:={g,cap,len,sz}
def GS.up(p:GS):aH:={toGS:=p}
inductive an(P:Program)(μ:Ro)(φ:Nat→aH):V→Value→Prop
 |pv {p:PV} {x:Value}:aq P μ p x→an P μ φ (.pv p) x
 |fM:an P μ φ .fM (.slice none 0 0)
 |op {id off g:Nat}:(φ id).g=some g→an P μ φ (.op id off) (.pointer (some ⟨g,off,none⟩))
 |oe {id i off g:Nat}:(φ id).g=some g→an P μ φ (.oe id i off) (.pointer (some ⟨g,i*(φ id).sz+off,none⟩))
 |vO {id:Nat}:(φ id).g=none→an P μ φ (.os id) (.slice none 0 0)
 |os {id g:Nat}:(φ id).g=some g→an P μ φ (.os id) (.slice (some ⟨g,0,none⟩) (φ id).len (φ id).cap)
 |uj {id:Nat}:(φ id).g=none→an P μ φ (.gh id 0 0) (.slice none 0 0)
 |gh {id lo len cap g:Nat} {a:Addr}:(φ id).g=some g→lo+len≤(φ id).len→(a=⟨g,lo*(φ id).sz,none⟩∨((φ id).cap=lo∧0<lo))→len≤cap→lo+cap≤(φ id).cap→an P μ φ (.gh id lo len) (.slice (some a) len cap)
 |MV {id i off:Nat}:((φ id).row i off).g=none→an P μ φ (.AJ id i off) (.slice none 0 0)
 |AJ {id i off g:Nat}:((φ id).row i off).g=some g→an P μ φ (.AJ id i off) (.slice (some ⟨g,0,none⟩) ((φ id).row i off).len ((φ id).row i off).cap)
 |Ef {id i off s j off2 g:Nat}:((φ id).row i off).g=some g→((φ id).row i off).sz=s→an P μ φ (.Ef id i off s j off2) (.pointer (some ⟨g,j*s+off2,none⟩))
 |om {id g:Nat}:(φ id).g=some g→an P μ φ (.om id) (.map (some g))
 |yl {id g:Nat}:(φ id).g=some g→an P μ φ (.yl id) (.func (.yield g) #[] #[])
 |it {id g:Nat}:(φ id).g=some g→an P μ φ (.it id) (.pointer (some ⟨g,0,none⟩))
 |fn {f:FuncId} {cs:List V} {xs:Array Value}:cs.length=xs.size→(∀(i:Nat)p x,cs[i]?=some p→xs[i]?=some x→an P μ φ p x)→an P μ φ (.fn f cs) (Er f xs)
 |agg {cs:List V} {xs:Array Value}:cs.length=xs.size→(∀(i:Nat)p x,cs[i]?=some p→xs[i]?=some x→an P μ φ p x)→(∀(i:Nat)(x:Value),xs[i]?=some x→x.oneCell'=true)→an P μ φ (.agg cs) (.agg xs)
 |aI {cs:List V} {xs:Array Value}:cs.length=xs.size→(∀(i:Nat)p x,cs[i]?=some p→xs[i]?=some x→an P μ φ p x)→an P μ φ (.aI cs) (.tuple xs)
 |top {x:Value}:an P μ φ .top x
def aL(P:Program)(μ:Ro)(φ:Nat→aH)(w:World)(id sz:Nat)(et:TypeId)(es:List PV):Prop:=
 (φ id).len=es.length∧(φ id).sz=sz∧sz=aS P et∧0<sz∧(∀(i:Nat)e,es[i]?=some e→e.cells.length=sz)∧(φ id).cap≤maxLen∧
 match(φ id).g with
 |none=>es=[]∧(φ id).cap=0
 |some g=>∃(c:Array Value)(T:TypeId),w.heap[g]?=some (.cells c T (0,0))∧(φ id).cap*sz≤c.size∧es.length≤(φ id).cap∧(∀(i:Nat)e(j:Nat)p x,es[i]?=some e→e.cells[j]?=some p→c[i*sz+j]?=some x→aq P μ p x)∧(∀(i:Nat)(x:Value),i<es.length*sz→c[i]?=some x→x.oneCell'=true)
def bL.rowAt:bL→Nat→Nat→Bool
 |.nest _ _ es,i,off=>match es[i]? with
  |some e=>match e.cells[off]? with
   |some p=>p.isRow
   |none=>false
  |none=>false
 |.fG _ _ es,i,0=>match es[i]? with
  |some x=>x.2.isRow
  |none=>false
 |_,_,_=>false
def eX(P:Program)(μ:Ro)(R:GS)(w:World)(s:Nat)(rs:List PV)(x:Value):Prop:=(∃et,aL P μ (fun _=>R.up) w 0 s et rs)∧an P μ (fun _=>R.up) (.os 0) x
def eA(P:Program)(μ:Ro)(R:GS)(w:World)(p:PV)(x:Value):Prop:=match p with
 |.qg s rs=>eX P μ R w s rs x
 |p=>aq P μ p x
def bd(P:Program)(μ:Ro)(φ:Nat→aH)(w:World)(id sz:Nat)(et:TypeId)(es:List PV):Prop:=
 (φ id).len=es.length∧(φ id).sz=sz∧sz=aS P et∧0<sz∧(∀(i:Nat)e,es[i]?=some e→e.cells.length=sz)∧(φ id).cap≤maxLen∧
 match(φ id).g with
 |none=>es=[]∧(φ id).cap=0
 |some g=>∃(c:Array Value)(T:TypeId),w.heap[g]?=some (.cells c T (0,0))∧(φ id).cap*sz≤c.size∧es.length≤(φ id).cap∧(∀(i:Nat)e(j:Nat)p x,es[i]?=some e→e.cells[j]?=some p→c[i*sz+j]?=some x→eA P μ ((φ id).row i j) w p x)∧(∀(i:Nat)(x:Value),i<es.length*sz→c[i]?=some x→x.oneCell'=true)
def na(en:Array MapEntry)(clock:Nat):Prop:=∀(i:Nat)e,en[i]?=some e→e.born<clock∧∀(j:Nat)e',en[j]?=some e'→e'.born=e.born→j=i
def mq(en:Array MapEntry)(seen:Array Nat):List MapEntry:=en.toList.filter fun e=> !seen.contains e.born
def gM(P:Program)(μ:Ro)(φ:Nat→aH)(w:World)(id:Nat):bL→Prop
 |.box cs=>∃(g:Nat)(c:Array Value)(T:TypeId),(φ id).g=some g∧w.heap[g]?=some (.cells c T (0,0))∧c.size=cs.length∧(∀(i:Nat)v x,cs[i]?=some v→c[i]?=some x→an P μ φ v x)∧(∀(i:Nat)(x:Value),c[i]?=some x→x.oneCell'=true)∧(φ id).len=cs.length
 |.arr sz et es=>aL P μ φ w id sz et es
 |.sq sz et es=>aL P μ φ w id sz et es∧∀g,(φ id).g=some g→(μ g).isSome
 |.map kt es=>∃(g:Nat)(en:Array MapEntry)(clock:Nat)(kk:List Kd),(φ id).g=some g∧w.heap[g]?=some (.map en clock)∧en.size=es.length∧vS P kt=some kk∧(∀(i:Nat)k v,es[i]?=some (k,v)→Af P kt kk k=true)∧na en clock∧(∀(i:Nat)k v e,es[i]?=some (k,v)→en[i]?=some e→aq P μ k e.key∧aq P μ v e.val)
 |.nest sz et es=>bd P μ φ w id sz et es
 |.fG kt e0 es=>∃(g:Nat)(en:Array MapEntry)(clock:Nat)(kk:List Kd),(φ id).g=some g∧w.heap[g]?=some (.map en clock)∧en.size=es.length∧vS P kt=some kk∧(∀(i:Nat)k v,es[i]?=some (k,v)→Af P kt kk k=true)∧na en clock∧(∀(i:Nat)k v e,es[i]?=some (k,v)→en[i]?=some e→aq P μ k e.key∧(match v with
  |.qg s rs=>aL P μ (fun _=>((φ id).row i 0).up) w 0 s e0 rs∧an P μ (fun _=>((φ id).row i 0).up) (.os 0) e.val
  |v=>aq P μ v e.val))
 |.iter t es cur=>∃(g mg:Nat)(en:Array MapEntry)(clock:Nat)(seen:Array Nat),(φ id).g=some g∧w.heap[g]?=some (.mapIter (some mg) clock seen clock)∧μ mg=some (.map en clock)∧na en clock∧(mq en seen).length=es.length∧(∀(i:Nat)k v e,es[i]?=some (k,v)→(mq en seen)[i]?=some e→aq P μ k e.key∧aq P μ v e.val)∧∀k v,cur=some (k,v)→∃(i:Nat)(e:MapEntry),en[i]?=some e∧seen.back? =some e.born∧aq P μ k e.key∧aq P μ v e.val
 |.loop st=>∃(g:Nat)(rc:Loop),(φ id).g=some g∧w.heap[g]?=some (.loop (st.obj rc))
def bL.kh:bL→Bool
 |.sq .. =>false
 |_=>true
structure bu where
 w:World
 mu:Ro
 sv:Nat→Value
 dC:Ro:=fun _=>none
 lj:Ro:=fun _=>none
 rc:Nat→Option (Nat×Loop):=fun _=>none
 hid:Ro:=fun _=>none
abbrev bu.heap(B:bu):Array Obj:=B.w.heap
def bL.owns(b:bL)(p:aH)(g:Nat):Prop:=p.g=some g∨∃i off,b.rowAt i off=true∧(p.row i off).g=some g
def bL.apart(b:bL)(p:aH):Prop:=∀i off g,b.rowAt i off=true→(p.row i off).g=some g→p.g≠some g∧∀i' yV,b.rowAt i' yV=true→(p.row i' yV).g=some g→i'=i∧yV=off
structure aA(P:Program)(G:Nat→Option (List PV))(w0:bu)(μ:Ro)(φ:Nat→aH)(m:Mem)(w:World):Prop where
 below:lh w0.heap.size w0.w w
 ro:∀b o,μ b=some o→w.heap[b]?=some o
 az:∀g cs,G g=some cs→CU P μ g cs
 dB:∀id b,m id=some b→gM P μ φ w id b
 own:∀id b g,m id=some b→b.owns (φ id) g→w0.heap.size≤g∧(b.kh=true→μ g=none)
 inj:∀Zb id2 b1 b2 g,m Zb=some b1→m id2=some b2→b1.owns (φ Zb) g→b2.owns (φ id2) g→Zb=id2
 apart:∀id b,m id=some b→b.apart (φ id)
 fI:∀j cs id,m j=some (.box cs)→cp id cs=true→(m id).isSome=true
 base:∀b o,μ b=some o→b<w0.heap.size→w0.mu b=some o
 dC:∀b o,w0.dC b=some o→μ b=some o
 Ft:∀id st,m id=some (.loop st)→∃g rc,(φ id).g=some g∧w0.rc id=some (g,rc)∧w.heap[g]?=some (.loop (st.obj rc))
 hid:∀g o,w0.hid g=some o→w.heap[g]?=some o∧w0.heap.size≤g∧μ g=none∧∀id b,m id=some b→¬b.owns (φ id) g
def bV(nt:Nat)(w0:bu)(a:Act):Nat→Value:=fun t=>if t<nt then a.tmps.getD t undef else w0.sv t
theorem rI{nt:Nat}{w0:bu}{a:Act}{t:Nat}(h:t<nt):bV nt w0 a t=a.tmps.getD t undef:=No h
def Marks(B:Nat)(lj μ:Ro)(ds:List Deferred):Prop:=∃Ds:List Nat,ds=Ds.map (fun D=>{target:=.collected D,args:= #[]})∧Ds.Nodup∧∀D∈Ds,B≤D∧lj D=none∧μ D=some (.deferred (some []))
theorem Marks.nil(B:Nat)(lj μ:Ro):Marks B lj μ []:=⟨[],rfl,.nil,by simp⟩
theorem Marks.mono{B:Nat}{lj μ μ':Ro}(h:∀b o,μ b=some o→μ' b=some o){ds:List Deferred}:Marks B lj μ ds→Marks B lj μ' ds
 |⟨Ds,e,hn,hD⟩=>⟨Ds,e,hn,fun D hd=>⟨(hD D hd).1,(hD D hd).2.1,h _ _ (hD D hd).2.2⟩⟩
structure Rel(P:Program)(G:Nat→Option (List PV))(nt:Nat)(w0:bu)(μ:Ro)(φ:Nat→aH)(f:Fr)(m:Mem)(a:Act)(w:World):Prop extends aA P G w0 μ φ m w where
 size:a.tmps.size=nt
 defers:Marks w0.heap.size w0.lj μ a.defers
 lj:∀b o,w0.lj b=some o→w0.dC b=some o
 fr:∀t,an P μ φ (f t) (bV nt w0 a t)
 live:∀t id,(f t).has id=true→(m id).isSome=true
section
variable {P:Program} {μ μ':Ro} {φ φ':Nat→aH}
variable{x:Value}
theorem GV(h:∀b o,μ b=some o→μ' b=some o){b o:Nat}(hx:cellAt μ b o=some x):cellAt μ' b o=some x:=by grind [cellAt]
variable{p:PV}
theorem aq.mono(h:∀b o,μ b=some o→μ' b=some o)(hp:aq P μ p x):aq P μ' p x:=by
 induction hp with
 |int h=>exact .int h
 |bool=>exact .bool
 |str h=>exact .str h
 |agg h1 _ h3 ih=>exact .agg h1 ih h3
 |aI h1 _ ih=>exact .aI h1 ih
 |ig=>exact .ig
 |rp X h1 _ h3 ih=>exact .rp X (fun i p hi=>GV h (h1 i p hi)) ih h3
 |l5=>exact .l5
 |Ox h=>exact .Ox h
 |rs X h1 h2 h3 h4 _ h6 ih=>exact .rs X h1 h2 h3 (fun i e j p hi hj=>GV h (h4 i e j p hi hj)) ih h6
 |od=>exact .od
 |rm h1 h2 h3 h4 h5 _ _ ih1 ih2=>exact .rm (h _ _ h1) h2 h3 h4 h5 ih1 ih2
 |CJ=>exact .CJ
 |fn h1 _ ih=>exact .fn h1 ih
 |Za=>exact .Za
 |adp=>exact .adp
 |bad=>exact .bad
theorem CU.mono(h:∀b o,μ b=some o→μ' b=some o){g:Nat}{cs:List PV}(hv:CU P μ g cs):CU P μ' g cs:=⟨hv.rep.mono h,let⟨c,T,z,h1,h2⟩:=hv.size;⟨c,T,z,h _ _ h1,h2⟩⟩
theorem bR{id:Nat}{v:V}:∀{cs:List V},v∈cs→v.has id=true→cp id cs=true
 |c::r,hm,hv=>by
  rcases aoc.1 hm with rfl|hm
  ·simp[cp,hv]
  ·simp[cp,bR hm hv]
theorem cK{id:Nat}:∀{cs:List V},cp id cs=true↔∃v∈cs,v.has id=true
 |[]=>by simp[cp]
 |c::r=>by simp[cp,cK (cs:=r)]
theorem Cj{id:Nat}{v:V}:∀{cs:List V},v∈cs→v.Aw id=true→Eh id cs=true
 |c::r,hm,hv=>by
  rcases aoc.1 hm with rfl|hm
  ·simp[Eh,hv]
  ·simp[Eh,Cj hm hv]
theorem an.mono(h:∀b o,μ b=some o→μ' b=some o){v:V}{x:Value}(hv:an P μ φ v x)(hφ:∀id,v.has id=true→φ' id=φ id):an P μ' φ' v x:=by
 induction hv with
 |pv hp=>exact .pv (hp.mono h)
 |fM=>exact .fM
 |op hg=>exact .op (by simp_all[V.has])
 | @oe id i off g hg=>have e:=hφ id (by simp[V.has]);have:=an.oe (P:=P) (μ:=μ') (φ:=φ') (id:=id) (i:=i) (off:=off) (g:=g) (by rw[e];omega);simp_all
 | @vO id hg=>exact .vO (by rw[hφ id (by simp[V.has])];omega)
 | @os id g hg=>have e:=hφ id (by simp[V.has]);have:=an.os (P:=P) (μ:=μ') (φ:=φ') (id:=id) (g:=g) (by rw[e];omega);simp_all
 | @uj id hg=>exact .uj (by rw[hφ id (by simp[V.has])];omega)
 | @gh id lo len cap g a hg hl ha hc hc'=>have e:=hφ id (by simp[V.has]);exact an.gh (P:=P) (μ:=μ') (φ:=φ') (id:=id) (lo:=lo) (len:=len) (cap:=cap) (g:=g) (a:=a) (by rw[e];omega) (by rw[e];omega) (by rw[e];omega) hc (by rw[e];omega)
 | @MV id i off hg=>exact .MV (by rw[hφ id (by simp[V.has])];omega)
 | @AJ id i off g hg=>have e:=hφ id (by simp[V.has]);have:=an.AJ (P:=P) (μ:=μ') (φ:=φ') (id:=id) (i:=i) (off:=off) (g:=g) (by rw[e];omega);simp_all
 | @Ef id i off s j off2 g hg hs=>have e:=hφ id (by simp[V.has]);exact .Ef (by rw[e];omega) (by rw[e];omega)
 | @om id g hg=>exact .om (by rw[hφ id (by simp[V.has])];omega)
 | @yl id g hg=>exact .yl (by rw[hφ id (by simp[V.has])];omega)
 | @it id g hg=>exact .it (by rw[hφ id (by simp[V.has])];omega)
 |fn h1 _ ih=>exact .fn h1 (fun i p x hi hx=>ih i p x hi hx (fun id hid=>hφ id (by simp only[V.has];exact bR (an4 hi) hid)))
 |agg h1 _ h3 ih=>exact .agg h1 (fun i p x hi hx=>ih i p x hi hx (fun id hid=>hφ id (by simp only[V.has];exact bR (an4 hi) hid))) h3
 |aI h1 _ ih=>exact .aI h1 (fun i p x hi hx=>ih i p x hi hx (fun id hid=>hφ id (by simp only[V.has];exact bR (an4 hi) hid)))
 |top=>exact .top
variable{v:V}
theorem an.aeS(h:∀b o,μ b=some o→μ' b=some o)(hv:an P μ φ v x)(hφ:∀id,v.has id=true→(φ' id).toGS=(φ id).toGS∧(v.Aw id=true→φ' id=φ id)):an P μ' φ' v x:=by
 induction hv with
 |pv hp=>exact .pv (hp.mono h)
 |fM=>exact .fM
 |op hg=>exact .op (by simp_all[V.has])
 | @oe id i off g hg=>have e:=(hφ id (by simp[V.has])).1;have:=an.oe (P:=P) (μ:=μ') (φ:=φ') (id:=id) (i:=i) (off:=off) (g:=g) (by rw[e];omega);simp_all
 | @vO id hg=>exact .vO (by rw[(hφ id (by simp[V.has])).1];omega)
 | @os id g hg=>have e:=(hφ id (by simp[V.has])).1;have:=an.os (P:=P) (μ:=μ') (φ:=φ') (id:=id) (g:=g) (by rw[e];omega);simp_all
 | @uj id hg=>exact .uj (by rw[(hφ id (by simp[V.has])).1];omega)
 | @gh id lo len cap g a hg hl ha hc hc'=>have e:=(hφ id (by simp[V.has])).1;exact an.gh (P:=P) (μ:=μ') (φ:=φ') (id:=id) (lo:=lo) (len:=len) (cap:=cap) (g:=g) (a:=a) (by rw[e];omega) (by rw[e];omega) (by rw[e];omega) hc (by rw[e];omega)
 | @MV id i off hg=>exact .MV (by rw[(hφ id (by simp[V.has])).2 (by simp[V.Aw])];omega)
 | @AJ id i off g hg=>have e:=(hφ id (by simp[V.has])).2 (by simp[V.Aw]);have:=an.AJ (P:=P) (μ:=μ') (φ:=φ') (id:=id) (i:=i) (off:=off) (g:=g) (by rw[e];omega);simp_all
 | @Ef id i off s j off2 g hg hs=>have e:=(hφ id (by simp[V.has])).2 (by simp[V.Aw]);exact .Ef (by rw[e];omega) (by rw[e];omega)
 | @om id g hg=>exact .om (by rw[(hφ id (by simp[V.has])).1];omega)
 | @yl id g hg=>exact .yl (by rw[(hφ id (by simp[V.has])).1];omega)
 | @it id g hg=>exact .it (by rw[(hφ id (by simp[V.has])).1];omega)
 |fn h1 _ ih=>exact .fn h1 (fun i p x hi hx=>ih i p x hi hx (fun id hid=>⟨(hφ id (by simp only[V.has];exact bR (an4 hi) hid)).1,fun h2=>(hφ id (by simp only[V.has];exact bR (an4 hi) hid)).2 (by simp only[V.Aw];exact Cj (an4 hi) h2)⟩))
 |agg h1 _ h3 ih=>exact .agg h1 (fun i p x hi hx=>ih i p x hi hx (fun id hid=>⟨(hφ id (by simp only[V.has];exact bR (an4 hi) hid)).1,fun h2=>(hφ id (by simp only[V.has];exact bR (an4 hi) hid)).2 (by simp only[V.Aw];exact Cj (an4 hi) h2)⟩)) h3
 |aI h1 _ ih=>exact .aI h1 (fun i p x hi hx=>ih i p x hi hx (fun id hid=>⟨(hφ id (by simp only[V.has];exact bR (an4 hi) hid)).1,fun h2=>(hφ id (by simp only[V.has];exact bR (an4 hi) hid)).2 (by simp only[V.Aw];exact Cj (an4 hi) h2)⟩))
 |top=>exact .top
theorem an.CV(h:∀b o,μ b=some o→μ' b=some o)(hv:an P μ φ v x):an P μ' φ v x:=hv.mono h fun _ _=>rfl
theorem an.kill(id:Nat)(hv:an P μ φ v x):an P μ φ (uf id v) x:=by
 unfold uf;cases v.has id<;>simp
 ·omega
 ·exact .top
theorem an.CW(id:Nat)(hv:an P μ φ v x):an P μ φ (oC id v) x:=by
 unfold oC;cases v.Aw id<;>simp
 ·omega
 ·exact .top
theorem Ck{id j:Nat}(h:(oC id v).has j=true):v.has j=true∧(oC id v).Aw id=false:=by grind [oC,id,V.has]
theorem eA.pure{R:GS}{w:World}(h:aq P μ p x):eA P μ R w p x:=by
 unfold eA;split
 ·cases h
 omega
theorem eA.TT{R:GS}{w:World}(h:eA P μ R w p x)(hp:p.isRow=false):aq P μ p x:=by
 unfold eA at h;split at h
 ·cases hp
 omega
theorem aq.HU(h:aq P μ p x):p.isRow=false:=by cases h<;>rfl
theorem AU{id j:Nat}(h:(uf id v).has j=true):v.has j=true∧j≠id:=by grind [uf,id,V.has]
end
section
variable {P:Program} {G:Nat→Option (List PV)} {w0:bu} {μ:Ro} {φ:Nat→aH} {f:Fr} {m:Mem} {w:World}
@[simp] theorem al4(p:PV)(id:Nat):(V.pv p).has id=false:=by rfl
@[simp] theorem al0(id:Nat):V.top.has id=false:=by rfl
@[simp] theorem aip(id:Nat):V.fM.has id=false:=by rfl
theorem TU(cs:List PV)(id:Nat):cp id (cs.map .pv)=false:=by
 induction cs with
 |nil=>rfl
 |cons c r ih=>simp[cp,ih]
theorem yX(k:IntKind)(n:Int):(Lit.int k n).wf=true↔k.min≤n∧n≤k.max:=by simp[Lit.wf]
theorem wf_wrap(k:IntKind)(n:Int):(Lit.int k (k.wrap n)).wf=true:=by rw[yX];cases k<;>simp only[IntKind.wrap,IntKind.min,IntKind.max,IntKind.signed,IntKind.bits]<;>simp<;>(try split)<;>omega
theorem aq.one{p:PV}{x:Value}(h:aq P μ p x)(h1:∀cs,p≠.agg cs)(h2:∀cs,p≠.aI cs)(h3:p≠.bad):x.oneCell'=true:=by cases h<;>first|rfl|exact Ll _ _|exact absurd rfl (h1 _)|exact absurd rfl (h2 _)|exact absurd rfl h3
theorem Iy(c:Value):an P μ φ (FA c) c:=by
 unfold FA;split
 ·split
  ·exact .pv (.int (by omega))
  ·exact .top
 ·exact .pv .bool
 ·rename_i s;split
  ·exact .pv (.str (by omega))
  ·exact .top
 ·exact .pv .ig
 ·exact .fM
 ·exact .pv .od
 ·exact .pv .CJ
 ·exact .pv .Za
 ·exact .top
theorem Iz(c:Value)(id:Nat):(FA c).has id=false:=by unfold FA;split<;>(try split)<;>simp
theorem Ln(c:Value)(id:Nat):(Le c).has id=false:=by
 unfold Le;split
 ·rename_i cs;split
  ·simp only[V.has];rw[Bool.eq_false_iff];intro h;obtain⟨v,hv,hh⟩:=cK.1 h;obtain⟨x,_,rfl⟩:=aoi.1 hv;rw[Iz]at hh;cases hh
  rfl
 ·exact Iz _ _
theorem yf(c:Value):an P μ φ (Le c) c:=by
 unfold Le;split
 ·rename_i cs;split
  ·rename_i hc;refine .agg (by simp) (fun i p x hi hx=>?_) (fun i x hx=>?_)
   ·grind [Option.some.injEq,Iy]
   ·rw[aoN]at hc;have:=hc x (by grind);cases x<;>first|rfl|(simp at this)
  ·exact .top
 ·exact Iy _
end
section
variable {R:Type} {E:Env} {w0:bu} {μ:Ro} {φ:Nat→aH} {f:Fr} {m:Mem} {a:Act} {w:World}
theorem au(h:Rel E.P E.az E.fn.ntmps w0 μ φ f m a w)(x:Operand):an E.P μ φ (bJ E f x) (a.eval x)∧∀id,(bJ E f x).has id=true→(m id).isSome=true:=by
 cases x with
 |tmp t=>
  simp only[bJ];cases e:Nat.blt t E.fn.ntmps with
  |true=>
   have bF:t<E.fn.ntmps:=by rwa[ao9]at e
   have:=h.fr t;rw[rI bF]at this;exact⟨this,h.live t⟩
  |false=>exact⟨.top,fun id hid=>by cases hid⟩
 |const c=>exact⟨yf c,fun id hid=>by simp_all[bJ,Ln]⟩
 |global g=>
  simp only[bJ];cases hg:E.az g with
  |none=>exact⟨.top,by simp⟩
  |some cs=>exact⟨.pv (h.az g cs hg).rep,by simp⟩
 |func g=>
  simp only[bJ];cases e:Nat.blt g Ic with
  |true=>refine⟨?_,by simp[V.has,cp]⟩;have:=an.fn (P:=E.P) (μ:=μ) (φ:=φ) (f:=g) (cs:=[]) (xs:= #[]) (by simp) (by simp);rw[uk e]at this;exact this
  |false=>exact⟨.top,by simp⟩
variable{p:PV}
theorem mo{sz j:Nat}{q:PV}(h:(aK sz p)[j]?=some q):j<sz∧q=cell p j:=by
 unfold aK at h;have key:∀(n o j:Nat),(dZ p o n)[j]?=some q→j<n∧q=cell p (o+j):=by
  intro n;induction n with
  |zero=>intro o j hj;simp[dZ]at hj
  |succ n ih=>
   intro o j hj;cases j with
   |zero=>simp_all[dZ]
   |succ j=>simp only[dZ,apP]at hj;grind
 grind
theorem bh(sz:Nat)(p:PV):(aK sz p).length=sz:=by
 unfold aK;have:∀n o,(dZ p o n).length=n:=by
  intro n;induction n with
  |zero=>intro o;rfl
  |succ n ih=>intro o;simp[dZ,ih]
 exact this _ _
theorem fO{sz:Nat}(h:p.cells.length=sz):aK sz p=p.cells:=by
 apply aox;intro j;by_cases hj:j<sz
 ·have h1:j<(aK sz p).length:=by rw[bh];omega
  have h2:=mo (ta h1);rw[ta h1,h2.2,cell,List.getD_eq_getElem?_getD,ta (by omega)];rfl
 simp_all[aoY,bh]
theorem aq.CX{P:Program}{μ:Ro}{n:Nat}{cs:List PV}{x:Value}(h:aq P μ (.agg cs) x)(hn:cs.length=n):aq P μ (.agg (aK n (.agg cs))) x:=by simp_all[fO,PV.cells]
variable{t:TypeId}{k:PV→Option R}
theorem mK{r:R}(h:ij E t p k=some r):∃q,(∀(R':Type)(k':PV→Option R'),ij E t p k'=k' q)∧k q=some r∧(∀(P:Program)(μ:Ro)x,aq P μ p x→aq P μ q x)∧q≠.bad∧(∀cs,q≠.aI cs)∧(aG E.P t=false→∀cs,q≠.agg cs):=by
 unfold ij at h;split at h
 ·rename_i q hu;obtain⟨n,hn,hk⟩:=By.1 h;have hp:p=.int q n:=by cases p<;>simp[asInt]at hn;simp_all
  grind [ij]
 ·rename_i hu;obtain⟨n,hn,hk⟩:=By.1 h;have hp:p=.bool n:=by cases p<;>simp[asBool]at hn;subst hn;rfl
  grind [ij]
 ·rename_i hu;obtain⟨n,hn,hk⟩:=By.1 h;have hp:p=.str n:=by cases p<;>simp[aZ]at hn;subst hn;rfl
  grind [ij]
 ·rename_i e hu;obtain⟨es,hn,hk⟩:=By.1 h;refine⟨.rs (aS E.P e) es,fun R' k'=>by simp[ij,hu,hn],hk,fun P μ x hx=>?_,by simp,by simp,by simp⟩;cases p<;>simp[ah]at hn;split at hn
  ·simp_all
  ·split at hn
   ·simp only[tb]at hn;subst hn;cases hx with
    |l5=>exact .l5
    |Ox h=>exact .Ox h
    |rs X h1 h2 _ _ _ _=>exact .Ox h2
   ·cases hn
 ·rename_i fs hu;obtain⟨u,hn,hk⟩:=By.1 h;refine⟨_,fun R' k'=>by simp[ij,hu,hn],hk,fun P μ x hx=>?_,by simp,by simp,by simp[aG,hu]⟩;cases p<;>simp[asAgg]at hn;exact hx.CX hn
 ·rename_i n e hu;obtain⟨u,hn,hk⟩:=By.1 h;refine⟨_,fun R' k'=>by simp[ij,hu,hn],hk,fun P μ x hx=>?_,by simp,by simp,by simp[aG,hu]⟩;cases p<;>simp[asAgg]at hn;exact hx.CX hn
 ·rename_i e hu;unfold dp at h;split at h
  ·exact⟨.ig,fun R' k'=>by simp[ij,hu,dp],h,fun P μ x hx=>hx,by simp,by simp,by simp⟩
  ·rename_i cs;split at h
   ·rename_i hn;refine⟨.rp (aK (aS E.P e) (.agg cs)),fun R' k'=>by simp[ij,hu,dp,hn],h,fun P μ x hx=>?_,by simp,by simp,by simp⟩;cases hx with
    | @rp _ b o X a1 a2 a3=>
     have hc:∀i q,(aK (aS E.P e) (.agg cs))[i]?=some q→cs[i]?=some q:=fun i q hq=>by
      have hi:=(IN.1 hq).1;rw[bh]at hi;obtain⟨_,h6⟩:=mo hq;rw[h6];have l8:i<cs.length:=by omega
      rw[ta l8];simp[cell,PV.cells,List.getD,ta l8]
     exact .rp X (fun i q hq=>a1 i q (hc i q hq)) (fun i q hq=>a2 i q (hc i q hq)) (fun i hi=>a3 i (by rw[bh]at hi;omega))
   ·cases h
  ·cases h
 ·rename_i kt et hu;unfold cJ at h;grind [ij,cJ]
 ·grind [ij]
 ·rename_i ms hu;obtain⟨n,hn,hk⟩:=By.1 h;have hp:p=.Wm n:=by cases p<;>simp[TN]at hn;subst hn;rfl
  grind [ij]
 ·cases h
theorem OY{v:V}{k:V→Option R}{r:R}(h:Ei E t v k=some r):∃u,(∀(R':Type)(k':V→Option R'),Ei E t v k'=k' u)∧k u=some r∧(∀(P:Program)(μ:Ro)(φ:Nat→aH)x,an P μ φ v x→an P μ φ u x)∧(∀id,u.has id=true→v.has id=true):=by
 unfold Ei at h;split at h
 ·obtain⟨q,h1,h2,h3,_⟩:=mK h;exact⟨.pv q,fun R' k'=>by simp[Ei,h1],h2,fun P μ φ x hx=>by cases hx with|pv hp=>exact .pv (h3 _ _ _ hp),by simp⟩
 ·cases h
 ·rename_i h1 h2;split at h
  ·rename_i hu;refine⟨v,fun R' k'=>?_,h,fun _ _ _ _ hx=>hx,fun _ h=>h⟩;unfold Ei;simp_all
  ·cases h
theorem AV{r:R}(h:ij E t p k=some r):∃d,E.P.underlying t=some d:=by unfold ij at h;grind
theorem Lp{v:V}{k:V→Option R}{r:R}(h:Ei E t v k=some r):∃d,E.P.underlying t=some d:=by
 unfold Ei at h;split at h
 ·exact AV h
 ·cases h
 ·split at h
  ·rename_i hu;exact aop.1 hu
  ·cases h
end
section
variable {P:Program} {G:Nat→Option (List PV)} {w0:bu} {μ:Ro} {φ:Nat→aH} {m:Mem} {w:World}
variable{t:TypeId}{d:TypeDesc}
theorem GW(h:P.underlying t=some d):(P.info? t).map (·.size)=some (aS P t):=by grind [Program.underlying,aS]
theorem IA(h:aG P t=true):∃d,P.underlying t=some d∧d.isRow=true:=by unfold aG at h;grind
theorem FO(hu:P.underlying t=some d):(isAgg t).run P w=.ok (aG P t) w:=by unfold isAgg;simp only[Sem.run_bind,run_underlying hu,Result.andThen_ok,aG,hu];cases d<;>rfl
theorem GX(hu:P.underlying t=some d):(sizeOf t).run P w=.ok (aS P t) w:=by
 have:=GW hu;cases hi:P.info? t with
 |none=>simp[hi]at this
 |some i=>simp[sizeOf,typeInfo,hi,aS]
variable{o:Nat}
theorem iR{b:Nat}{y:Value}(hu:P.underlying t=some d)(ha:aG P t=false)(hc:w.cell? ⟨b,o,none⟩=some y):(Instr.loadAt t (.pointer (some ⟨b,o,none⟩))).run P w=.ok y w:=by simp only[Instr.loadAt,Instr.sureAddr,loadVar,Sem.run_bind,Sem.run_pure,Result.andThen_ok,FO hu,ha];simp[load,Sem.run,hc]
theorem oG{b:Nat}{cs:List Value}(ha:aG P t=true)(hc:w.rangeAt b o cs)(hl:cs.length=aS P t):(Instr.loadAt t (.pointer (some ⟨b,o,none⟩))).run P w=.ok (.agg cs.toArray) w:=by grind [IA,run_loadAt_mid,GW]
theorem aA.cellAt(hM:aA P G w0 μ φ m w){b o:Nat}{x:Value}(h:cellAt μ b o=some x):w.cell? ⟨b,o,none⟩=some x:=by
 unfold Go.Ab.cellAt at h;split at h
 ·rename_i c t fz hb;simp[World.cell?,hM.ro _ _ hb,h]
 ·cases h
theorem dt{g:Nat}{c:Array Value}{T:TypeId}{fz:Nat×Nat}(h:w.heap[g]?=some (.cells c T fz)):w.cell? ⟨g,o,none⟩=c[o]?:=by simp[World.cell?,h]
theorem iS{T:Type}{l:List T}{n i:Nat}{x:T}(h:(l.take n)[i]?=some x):i<n∧l[i]?=some x:=by grind
theorem qV{T:Type}{l:List T}{n i:Nat}{x:T}(h:((l.drop o).take n)[i]?=some x):i<n∧l[o+i]?=some x:=by grind
theorem aq.afC{cs:List PV}{b n:Nat}{X:Nat→Value}(hM:aA P G w0 μ φ m w)(h1:∀(i:Nat)p,cs[i]?=some p→Go.Ab.cellAt μ b (o+i)=some (X i))(h2:∀(i:Nat)p,cs[i]?=some p→aq P μ p (X i))(h3:∀i:Nat,i<cs.length→(X i).oneCell'=true)(hn:n≤cs.length):w.rangeAt b o ((List.range n).map X)∧aq P μ (.agg (cs.take n)) (.agg ((List.range n).map X).toArray):=by
 have hX:∀i x,((List.range n).map X)[i]?=some x→i<n∧x=X i:=by grind
 refine⟨fun j v hv=>?_,.agg (by simp;omega) (fun i p x hi hx=>?_) (fun i x hx=>?_)⟩
 ·obtain⟨hj,rfl⟩:=hX j v hv;exact hM.cellAt (h1 j _ (ta (by omega)))
 ·grind
 grind
end
section
variable {R:Type} {E:Env}
def Quiet(v:V)(m:Mem):Prop:=∀id,v.has id=true→(m id).isSome=true
variable{cs:List V}
theorem gL{g:V→Option PV}{ps:List PV}(h:sr g cs=some ps):ps.length=cs.length∧∀(i:Nat)p,ps[i]?=some p→∃v,cs[i]?=some v∧g v=some p:=by
 induction cs generalizing ps with
 |nil=>simp[sr]at h;subst h;simp
 |cons c r ih=>simp only[sr]at h;obtain⟨p,hp,h⟩:=By.1 h;obtain⟨ps',qk,h⟩:=By.1 h;grind
variable{P:Program}{μ:Ro}{φ:Nat→aH}
theorem adq{xs:Array Value}(h:an P μ φ (.agg cs) (.agg xs)):an P μ φ (YV cs) (.agg xs):=by
 unfold YV;split
 ·rename_i ps qk;obtain⟨f1,f2⟩:=gL qk;cases h with
  |agg h1 h2 h3=>
   refine .pv (.agg (by omega) (fun i p x hi hx=>?_) h3);obtain⟨v,hv,hp⟩:=f2 i p hi;have hvp:v=.pv p:=by cases v<;>simp[TO]at hp;subst hp;rfl
   subst hvp;cases h2 i _ x hv hx with
   |pv h=>exact h
 ·exact h
variable{id:Nat}
theorem Zc(h:(YV cs).has id=true):(V.agg cs).has id=true:=by
 unfold YV at h;split at h
 ·simp[V.has]at h
 ·exact h
variable{s off:Nat}{t:TypeId}{e:PV}
theorem Lq{k:V→Option R}{r:R}(h:wO E s t e off k=some r):∃v,(∀(R':Type)(k':V→Option R'),wO E s t e off k'=k' v)∧k v=some r∧(∀id,v.has id=false)∧∀(μ:Ro)(φ:Nat→aH)(w:World)(g o:Nat)(c:Array Value)(T:TypeId),w.heap[g]?=some (.cells c T (0,0))→e.cells.length=s→(∀(j:Nat)p x,e.cells[j]?=some p→c[o+j]?=some x→aq E.P μ p x)→(∀(i:Nat)(x:Value),i<o+s→c[i]?=some x→x.oneCell'=true)→o+s≤c.size→∃y,(Instr.loadAt t (.pointer (some ⟨g,o+off,none⟩))).run E.P w=.ok y w∧an E.P μ φ v y:=by
 unfold wO at h;split at h
 ·rename_i ha;split at h
  ·rename_i hb;refine⟨_,fun R' k'=>by simp[wO,ha,hb],h,by simp,fun μ φ w g o c T hg hs hc h1 hl=>?_⟩;have hR:w.rangeAt g (o+off) ((c.toList.drop (o+off)).take (aS E.P t)):=fun j v hv=>by grind [qV,dt]
   refine⟨_,oG ha hR (by simp;omega),.pv (.agg (by simp[bh];omega) (fun i p x hi hx=>?_) (fun i x hx=>?_))⟩
   ·grind [qV,fO,Nat.add_assoc]
   grind
  ·cases h
 ·rename_i ha;have ha:aG E.P t=false:=by simpa using ha
  split at h
  ·rename_i p hp;obtain⟨q,h1,h2,h3,_⟩:=mK h;obtain⟨d,hu⟩:=AV h;refine⟨.pv q,fun R' k'=>by simp[wO,ha,hp,h1],h2,by simp,fun μ φ w g o c T hg hs hc _ hl=>?_⟩;rw[fO hs]at hp;have Wq:off<e.cells.length:=(IN.1 hp).1;have hx:c[o+off]?=some c[o+off]:=Yh (by omega);exact⟨_,iR hu ha (by rw[dt hg];omega),.pv (h3 _ _ _ (hc off p _ hp hx))⟩
  ·cases h
variable{p:PV}
theorem Wr{k:PV→Option R}{r:R}(h:ij E t p k=some r):p.isRow=false∧p≠.bad:=by
 cases p with
 |qg s es=>exfalso;unfold ij at h;split at h<;>simp[asInt,asBool,aZ,ah,asAgg,TN,cJ,dp]at h
 |bad=>exfalso;unfold ij at h;split at h<;>simp[asInt,asBool,aZ,ah,asAgg,TN,cJ,dp]at h
 |_=>exact⟨rfl,by simp⟩
theorem Lr(h:cell e off=p)(hp:p≠.bad):e.cells[off]?=some p:=by grind [cell,absurd]
theorem OZ{rs:List PV}(h:dQ s p=some rs):p=.qg s rs:=by unfold dQ at h;grind
variable{w:World}{et:TypeId}{es:List PV}{i:Nat}
theorem bd.cell{sz:Nat}(h:bd P μ φ w id sz et es){g:Nat}(hg:(φ id).g=some g)(he:es[i]?=some e)(hp:e.cells[off]?=some p):∃c T x,w.heap[g]?=some (.cells c T (0,0))∧c[i*sz+off]?=some x∧eA P μ ((φ id).row i off) w p x∧x.oneCell'=true:=by
 obtain⟨a1,a2,a3,a4,a5,a6,a7⟩:=h;rw[hg]at a7;obtain⟨c,T,c1,c2,c3,c4,c5⟩:=a7;have hi:i<es.length:=(IN.1 he).1;have ho:off<sz:=by grind
 have h1:(i+1)*sz≤es.length*sz:=an8 _ (by omega);have h2:es.length*sz≤(φ id).cap*sz:=an8 _ c3;rw[aoV]at h1;have bF:i*sz+off<c.size:=by omega
 exact⟨c,T,c[i*sz+off],c1,Yh bF,c4 i e off p _ he hp (Yh bF),c5 (i*sz+off) _ (by omega) (Yh bF)⟩
theorem bd.row{sz:Nat}(h:bd P μ φ w id sz et es){rs:List PV}(he:es[i]?=some e)(hr:dQ s (Go.Ab.cell e off)=some rs):∃g x,(φ id).g=some g∧w.cell? ⟨g,i*sz+off,none⟩=some x∧eX P μ ((φ id).row i off) w s rs x∧e.cells[off]?=some (.qg s rs):=by
 have hp:=Lr (OZ hr) (by simp);cases hg:(φ id).g with
 |none=>obtain⟨a1,a2,a3,a4,a5,a6,a7⟩:=h;simp_all
 |some g=>obtain⟨c,_,x,c1,c2,c3,_⟩:=h.cell hg he hp;exact⟨g,x,rfl,by rw[dt c1];omega,c3,hp⟩
theorem an.afD{ν:Ro}{x:Value}(h:an P μ (fun _=>((φ id).row i off).up) (.os 0) x):an P ν φ (.AJ id i off) x:=by
 cases h with
 |vO h=>exact .MV h
 |os h=>exact .AJ h
theorem an.Rx{ν:Ro}{x:Value}(h:an P μ φ (.AJ id i off) x):an P ν (fun _=>((φ id).row i off).up) (.os 0) x:=by
 cases h with
 |MV h=>exact .vO h
 |AJ h=>exact .os (id:=0) (φ:=fun _=>((φ id).row i off).up) h
theorem Lt{s:Nat}:∀{es:List PV}{k:Nat}{p:PV},(Eg s es)[k]?=some p→∃i j e,k=i*s+j∧j<s∧es[i]?=some e∧(aK s e)[j]?=some p
 |[],k,p,h=>by simp[Eg]at h
 |e::es,k,p,h=>by
  simp only[Eg]at h;rw[aoG,bh]at h;split at h
  ·exact⟨0,k,e,by omega,‹_›,rfl,h⟩
  ·obtain⟨i,j,e',h1,h2,h3,h4⟩:=Lt h;exact⟨i+1,j,e',by rw[aoV];omega,h2,by simpa using h3,h4⟩
theorem Lu{s:Nat}:∀{es:List PV},(Eg s es).length=es.length*s
 |[]=>by simp[Eg]
 |e::es=>by simp only[Eg,aob,bh,Lu,alx,aoV];omega
theorem Lv(h:FD E t s i off=true):aG E.P t=true∧i=0∧off=0∧∃n e,E.P.underlying t=some (.array n e)∧aS E.P e=s∧aG E.P e=true:=by
 unfold FD at h;split at h
 ·rename_i n e hu;simp only[aeu]at h;grind [aG,Nat.eq_of_beq_eq_true]
 ·cases h
theorem aL.whole(hA:aL P μ φ w id s et es){g:Nat}(hg:(φ id).g=some g):∃xs:List Value,xs.length=es.length*s∧w.rangeAt g 0 xs∧aq P μ (.agg (Eg s es)) (.agg xs.toArray):=by
 obtain⟨a1,a2,a3,a4,a5,a6,a7⟩:=hA;rw[hg]at a7;obtain⟨c,T,c1,c2,c3,c4,c5⟩:=a7;have hle:es.length*s≤c.size:=aov (an8 _ c3) c2;refine⟨c.toList.take (es.length*s),by simp;omega,fun j v hv=>?_,.agg (by rw[Lu];simp;omega) (fun k p x hp hx=>?_) (fun k x hx=>?_)⟩
 ·grind [dt]
 ·obtain⟨i,j,e,rfl,hj,he,hp⟩:=Lt hp;grind [fO]
 grind
theorem Iw{own:Bool}{a:V}{m:Mem}{k:V→bB→Option R}{r:R}(h:s9 E own t a m k=some r):∃v ft,(∀m2:Mem,(∀x∈ft,m2 x.2=m x.2)→∀(R':Type)(k':V→bB→Option R'),s9 E own t a m2 k'=k' v ft)∧k v ft=some r∧(∀x∈ft,x.1=false)∧∀(G:Nat→Option (List PV))(w0:bu)(μ:Ro)(φ:Nat→aH)(w:World)(x:Value),aA E.P G w0 μ φ m w→an E.P μ φ a x→∃y,(Instr.loadAt t x).run E.P w=.ok y w∧an E.P μ φ v y∧Quiet v m:=by
 unfold s9 at h;split at h
 ·rename_i cs;split at h
  ·rename_i ha;split at h
   ·rename_i hn;refine⟨_,_,fun m2 _ R' k'=>by simp[s9,ha,hn],h,by simp,fun G w0 μ φ w x hM hx=>?_⟩;cases hx with
    |pv hp=>cases hp with
     |rp X h1 h2 h3=>obtain⟨hr,hv⟩:=aq.afC hM h1 h2 h3 hn;exact⟨_,oG ha hr (by simp),.pv hv,by simp[Quiet]⟩
   ·cases h
  ·rename_i ha;have ha:aG E.P t=false:=by simpa using ha
   obtain⟨p,Oy,h⟩:=By.1 h;have hp1:cs[0]?=some p:=by simp_all[aqb]
   obtain⟨q,h1,h2,h3,_⟩:=mK h;refine⟨_,_,fun m2 _ R' k'=>by simp[s9,ha,Oy,h1],h2,by simp,fun G w0 μ φ w x hM hx=>?_⟩;obtain⟨d,hu⟩:=AV h;cases hx with
   |pv hp=>cases hp with
    |rp X g1 g2 g3=>have hc:=hM.cellAt (g1 0 p hp1);exact⟨_,iR hu ha (by omega),.pv (h3 _ _ _ (g2 0 p hp1)),by simp[Quiet]⟩
 ·rename_i id off;split at h
  ·rename_i cs hm;split at h
   ·rename_i ha;split at h
    ·rename_i hn;refine⟨_,_,fun m2 cG R' k'=>by simp[s9,ha,hn,cG (false,id) (by simp),hm],h,by simp,fun G w0 μ φ w x hM hx=>?_⟩;cases hx with
     | @op _ _ g hg=>
      obtain⟨g',c,T,cL,hh,hs,hv,h1,KH⟩:=hM.dB id _ hm;rw[hg]at cL;simp only[tb]at cL;subst cL;have hR:w.rangeAt g off ((c.toList.drop off).take (aS E.P t)):=fun j v hv=>by grind [qV,dt]
      refine⟨_,oG ha hR (by simp;omega),adq (.agg (by simp;omega) (fun i p x hi hx=>?_) (fun i x hx=>?_)),?_⟩
      ·grind
      ·grind
      ·intro vM hid;have hid:=Zc hid;simp only[V.has]at hid;obtain⟨v,hv,hh⟩:=cK.1 hid;exact hM.fI id cs vM hm (bR (ap1 (apv hv)) hh)
    ·cases h
   ·rename_i ha;have ha:aG E.P t=false:=by simpa using ha
    split at h
    ·rename_i ps qk;obtain⟨p,Oy,h⟩:=By.1 h;obtain⟨q,h1,h2,h3,_⟩:=mK h;refine⟨_,_,fun m2 cG R' k'=>by simp[s9,ha,cG (false,id) (by simp),hm,qk,Oy,h1],h2,by simp,fun G w0 μ φ w x hM hx=>?_⟩;cases hx with
     | @op _ _ g hg=>
      obtain⟨g',c,T,cL,hh,hs,hvv,_⟩:=hM.dB id _ hm;rw[hg]at cL;simp only[tb]at cL;subst cL;obtain⟨f1,f2⟩:=gL qk;obtain⟨bF,hp1⟩:=IN.1 Oy;have Wq:off<cs.length:=by omega
      obtain⟨v,hv,ow⟩:=f2 off p Oy;have hvp:v=.pv p:=by cases v<;>simp[TO]at ow;subst ow;rfl
      subst hvp;have hx:c[off]?=some c[off]:=Yh (by omega);obtain⟨d,hu⟩:=AV h;have hr:=hvv off _ _ hv hx;cases hr with
      |pv hr=>exact⟨_,iR hu ha (by rw[dt hh];omega),.pv (h3 _ _ _ hr),by simp[Quiet]⟩
    ·rename_i hnp;split at h
     ·rename_i v hv;obtain⟨u,h1,h2,h3,h4⟩:=OY h;refine⟨_,_,fun m2 cG R' k'=>by simp[s9,ha,cG (false,id) (by simp),hm,hnp,hv,h1],h2,by simp,fun G w0 μ φ w x hM hx=>?_⟩;cases hx with
      | @op _ _ g hg=>obtain⟨g',c,T,cL,hh,hs,hvv,_⟩:=hM.dB id _ hm;rw[hg]at cL;simp only[tb]at cL;subst cL;have Wq:off<cs.length:=(IN.1 hv).1;have hx:c[off]?=some c[off]:=Yh (by omega);obtain⟨d,hu⟩:=Lp h;refine⟨_,iR hu ha (by rw[dt hh];omega),h3 _ _ _ _ (hvv off v _ hv hx),fun vM hid=>?_⟩;exact hM.fI id cs vM hm (bR (an4 hv) (h4 vM hid))
     ·cases h
  ·cases h
 ·rename_i id i off;have key:∀(sz:Nat)(et:TypeId)(es:List PV),(m id=some (.arr sz et es)∨m id=some (.sq sz et es))→((es[i]?).bind fun e=>wO E sz t e off fun v=>k v [(false,id)])=some r→∃v,(∀(R':Type)(k':V→bB→Option R'),((es[i]?).bind fun e=>wO E sz t e off fun v=>k' v [(false,id)])=k' v [(false,id)])∧k v [(false,id)]=some r∧∀(G:Nat→Option (List PV))(w0:bu)(μ:Ro)(φ:Nat→aH)(w:World)(x:Value),aA E.P G w0 μ φ m w→an E.P μ φ (.oe id i off) x→∃y,(Instr.loadAt t x).run E.P w=.ok y w∧an E.P μ φ v y∧Quiet v m:=by
   intro sz et es hm hb;obtain⟨e,he,hb⟩:=By.1 hb;obtain⟨v,h1,h2,h3,h4⟩:=Lq hb;refine⟨v,fun R' k'=>by simp[he,h1],h2,fun G w0 μ φ w x hM hx=>?_⟩;have hA:aL E.P μ φ w id sz et es:=by
    rcases hm with hm|hm
    ·exact hM.dB id _ hm
    ·exact(hM.dB id _ hm).1
   cases hx with
   | @oe _ _ _ g hg=>
    obtain⟨a1,a2,a3,a4,a5,a6,a7⟩:=hA;rw[hg]at a7;obtain⟨c,T,c1,c2,c3,c4,c5⟩:=a7;have hi:i<es.length:=(IN.1 he).1;obtain⟨y,hy,hv⟩:=h4 μ φ w g (i*sz) c T c1 (a5 i e he) (fun j p x hj hx=>c4 i e j p x he hj hx) (fun i' x l8 hx=>c5 i' x (by
     have:(i+1)*sz≤es.length*sz:=an8 _ (by omega);grind) hx) (by
     have:(i+1)*sz≤(φ id).cap*sz:=an8 _ (by omega);grind)
    rw[a2];exact⟨y,hy,hv,fun id hid=>by simp_all⟩
  split at h
  ·rename_i sz et es hm;cases hw:FD E t sz i off with
   |true=>
    rw[hw]at h;simp only[cond_true]at h;split at h
    ·rename_i hl;obtain⟨ha,rfl,rfl,_⟩:=Lv hw;refine⟨_,_,fun m2 cG R' k'=>by have:=cG (false,id) (by simp);simp_all[s9,cond_true,No],h,by simp,fun G w0 μ φ w x hM hx=>?_⟩;have hA:aL E.P μ φ w id sz et es:=hM.dB id _ hm;cases hx with
     | @oe _ _ _ g hg=>obtain⟨xs,x1,x2,x3⟩:=hA.whole hg;rw[arb];exact⟨_,oG ha x2 (by omega),.pv x3,by simp[Quiet]⟩
    ·cases h
   |false=>rw[hw]at h;obtain⟨v,h1,h2,h3⟩:=key sz et es (.inl hm) h;exact⟨v,_,fun m2 cG R' k'=>by have:=cG (false,id) (by simp);simp_all[s9,cond_false],h2,by simp,h3⟩
  ·rename_i sz et es hm;obtain⟨v,h1,h2,h3⟩:=key sz et es (.inr hm) h;exact⟨v,_,fun m2 cG R' k'=>by have:=cG (false,id) (by simp);simp_all[s9],h2,by simp,h3⟩
  ·rename_i sz et es hm;split at h
   ·cases h
   ·rename_i ha;obtain⟨e,he,h⟩:=By.1 h;have ha':aG E.P t=false:=by simpa using ha
    split at h
    ·rename_i ho;split at h
     ·rename_i Kz hu;obtain⟨rs,hr,h⟩:=By.1 h;refine⟨_,_,fun m2 cG R' k'=>by have:=cG (false,id) (by simp);simp_all[s9,QU,aoe,BY],h,by simp,fun G w0 μ φ w x hM hx=>?_⟩;have hN:bd E.P μ φ w id sz et es:=hM.dB id _ hm;obtain⟨g,y,hg,hc,nb,_⟩:=hN.row he hr;cases hx with
      |oe cL=>rw[hg]at cL;simp only[tb]at cL;subst cL;rw[hN.2.1];refine⟨y,iR hu ha' hc,.afD nb.2,fun j hj=>?_⟩;have:=IT hj;subst this;rw[hm];rfl
     ·cases h
    ·rename_i ho;obtain⟨q,h1,h2,h3,_⟩:=mK h;obtain⟨hq1,Zd⟩:=Wr h;obtain⟨d,hu⟩:=AV h;refine⟨_,_,fun m2 cG R' k'=>by have:=cG (false,id) (by simp);simp_all[s9,QU,aoe,OF,AI],h2,by simp,fun G w0 μ φ w x hM hx=>?_⟩;have hN:bd E.P μ φ w id sz et es:=hM.dB id _ hm;cases hx with
     |oe hg=>obtain⟨c,_,y,c1,c2,c3,_⟩:=hN.cell hg he (Lr rfl Zd);rw[hN.2.1];exact⟨y,iR hu ha' (by rw[dt c1];omega),.pv (h3 _ _ _ (c3.TT hq1)),by simp[Quiet]⟩
  ·cases h
 ·rename_i id i off s j off2;split at h
  ·rename_i sz et es hm;obtain⟨e,he,h⟩:=By.1 h;obtain⟨rs,hr,h⟩:=By.1 h;obtain⟨q,hq,h⟩:=By.1 h;obtain⟨v,h1,h2,h3,h4⟩:=Lq h;refine⟨v,_,fun m2 cG R' k'=>by have:=cG (false,id) (by simp);simp_all[s9,aoe],h2,by simp,fun G w0 μ φ w x hM hx=>?_⟩;have hN:bd E.P μ φ w id sz et es:=hM.dB id _ hm;obtain⟨g,y,hg,hc,⟨⟨Kz,hA⟩,hV⟩,_⟩:=hN.row he hr;cases hx with
   | @Ef _ _ _ _ _ _ g' cL hs=>obtain⟨a1,a2,a3,a4,a5,a6,a7⟩:=hA;have hgu:((φ id).row i off).up.g=some g':=cL;rw[hgu]at a7;obtain⟨c,T,c1,c2,c3,c4,c5⟩:=a7;have hj:j<rs.length:=(IN.1 hq).1;have e1:(j+1)*s≤rs.length*s:=an8 _ (by omega);have e2:rs.length*s≤((φ id).row i off).up.cap*s:=an8 _ c3;have e3:((φ id).row i off).up.cap*s≤c.size:=c2;rw[aoV]at e1;obtain⟨y,hy,hv⟩:=h4 μ φ w g' (j*s) c T c1 (a5 j q hq) (fun l p x hl hx=>c4 j q l p x hq hl hx) (fun i' x l8 hx=>c5 i' x (by omega) hx) (by omega);exact⟨y,hy,hv,fun id hid=>by simp_all⟩
  ·cases h
 ·cases h
end
section
variable {R:Type} {E:Env}
variable{s t:TypeId}{j o:Nat}
theorem GY(h:Ej E s j=some (o,t)):∃fs f,E.P.underlying s=some (.struct fs)∧fs[j]?=some f∧f.offset=o∧f.type=t∧aS E.P t≠0:=by unfold Ej at h;grind
variable{P:Program}
theorem Cl(h:aS P t≠0):∃i,P.info? t=some i∧i.size=aS P t:=by
 unfold aS at*;cases hi:P.info? t with
 |none=>simp[hi]at h
 |some i=>simp
variable{w:World}
theorem jU(h:aS P t≠0):(sizeOf t).run P w=.ok (aS P t) w:=by obtain⟨i,hi,hs⟩:=Cl h;simp[sizeOf,typeInfo,hi,hs]
theorem vW{fs:Array Field}{f:Field}{b:Nat}(hu:P.underlying s=some (.struct fs))(hf:fs[j]?=some f)(hz:aS P f.type≠0):(Instr.fieldAt s (.pointer (some ⟨b,o,none⟩)) j).run P w=.ok (.pointer (some ⟨b,o+f.offset,none⟩)) w:=by simp_all[Instr.fieldAt,run_underlying,Instr.sureAddr,fieldPlace,jU,Addr.add_mid]
theorem yg{T:Type}{l:List T}{i:Nat}{x:T}(h:(l.drop o)[i]?=some x):l[o+i]?=some x:=by simp_all
theorem aq.MW{μ:Ro}{cs:List PV}{b:Nat}(n:Nat)(h:aq P μ (.rp cs) (.pointer (some ⟨b,o,none⟩))):aq P μ (.rp (cs.drop n)) (.pointer (some ⟨b,o+n,none⟩)):=by
 cases h with
 |rp X h1 h2 h3=>
  refine .rp (fun i=>X (n+i)) (fun i p hi=>?_) (fun i p hi=>h2 _ p (yg hi)) (fun i hi=>h3 _ ?_)
  ·grind
  ·simp at hi;omega
variable{x:V}{k:V→Option R}{r:R}
theorem CY(h:kJ E s x j k=some r):∃v,(∀(R':Type)(k':V→Option R'),kJ E s x j k'=k' v)∧k v=some r∧(∀id,v.has id=x.has id)∧∀(μ:Ro)(φ:Nat→aH)(w:World)(y:Value),an E.P μ φ x y→∃z,(Instr.fieldAt s y j).run E.P w=.ok z w∧an E.P μ φ v z:=by
 unfold kJ at h;split at h
 ·rename_i o t ho;obtain⟨fs,f,hu,hf,rfl,rfl,hz⟩:=GY ho;split at h
  ·rename_i cs;refine⟨_,fun R' k'=>by simp[kJ,ho],h,by simp,fun μ φ w y hy=>?_⟩;cases hy with
   |pv hp=>cases hp with
    |rp X h1 h2 h3=>exact⟨_,vW hu hf hz,.pv (aq.MW _ (.rp X h1 h2 h3))⟩
  ·rename_i id off;refine⟨_,fun R' k'=>by simp[kJ,ho],h,by simp[V.has],fun μ φ w y hy=>?_⟩;cases hy with
   |op hg=>exact⟨_,vW hu hf hz,.op hg⟩
  ·rename_i id i off;refine⟨_,fun R' k'=>by simp[kJ,ho],h,by simp[V.has],fun μ φ w y hy=>?_⟩;cases hy with
   |oe hg=>exact⟨_,vW hu hf hz,by rw[aoT];exact .oe hg⟩
  ·refine⟨_,fun R' k'=>by simp[kJ,ho],h,by simp[V.has],fun μ φ w y hy=>?_⟩;cases hy with
   |Ef hg hs=>exact⟨_,vW hu hf hz,by rw[aoT];exact .Ef hg hs⟩
  ·cases h
 ·cases h
theorem iT{e:TypeId}{q:IntKind}{i:Int}{ad:Addr}{len cap:Nat}(hu:P.underlying t=some (.slice e))(hz:aS P e≠0)(h0:0≤i)(h1:i<(len:Int)):(Instr.indexAt t (.slice (some ad) len cap) (.int q i)).run P w=.ok (.pointer (some (ad.add (i.toNat*aS P e)))) w:=by simp[Instr.indexAt,asIntOf,run_underlying hu,h0,h1,jU hz]
theorem mL{e:TypeId}{n:Nat}{q:IntKind}{i:Int}{ad:Addr}(hu:P.underlying t=some (.array n e))(hz:aS P e≠0)(h0:0≤i)(h1:i<(n:Int)):(Instr.indexAt t (.pointer (some ad)) (.int q i)).run P w=.ok (.pointer (some (ad.add (i.toNat*aS P e)))) w:=by simp[Instr.indexAt,asIntOf,run_underlying hu,h0,h1,jU hz,Instr.sureAddr]
theorem adr{es:List PV}{i:Int}{p:PV}(h:og es i=some p):0≤i∧es[i.toNat]?=some p∧i<(es.length:Int):=by grind [og]
theorem aq.TV{μ:Ro}{sz:Nat}{es:List PV}{x:Value}{n:Nat}{p:PV}(h:aq P μ (.rs sz es) x)(hp:es[n]?=some p):∃b o cap,x=.slice (some ⟨b,o,none⟩) es.length cap∧aq P μ (.rp (aK sz p)) (.pointer (some ⟨b,o+n*sz,none⟩)):=by
 cases h with
 |l5=>simp at hp
 |Ox _=>simp at hp
 | @rs _ _ b o cap X h1 h2 h3 h4 h5 h6=>refine⟨b,o,cap,rfl,?_⟩;rw[fO (h3 n p hp)];exact .rp (X n) (fun i q hi=>h4 n p i q hp hi) (fun i q hi=>h5 n p i q hp hi) (fun i hi=>h6 n p i _ hp (ta hi))
theorem KI{ix:V}{m:Mem}{k:V→bB→Option R}(h:dh E t x ix m k=some r):∃v ft,(∀m2:Mem,(∀x∈ft,m2 x.2=m x.2)→∀(R':Type)(k':V→bB→Option R'),dh E t x ix m2 k'=k' v ft)∧k v ft=some r∧(∀x∈ft,x.1=false)∧(∀id,v.has id=true→x.has id=true)∧∀(G:Nat→Option (List PV))(w0:bu)(μ:Ro)(φ:Nat→aH)(w:World)(y z:Value),aA E.P G w0 μ φ m w→an E.P μ φ x y→an E.P μ φ ix z→∃u,(Instr.indexAt t y z).run E.P w=.ok u w∧an E.P μ φ v u:=by
 unfold dh at h;split at h
 ·rename_i q i;split at h
  ·rename_i e s es hu;split at h
   ·rename_i hs;obtain⟨p,hp,hk⟩:=By.1 h;refine⟨_,_,fun m2 _ R' k'=>by simp only[dh,hu];rw[No hs,hp];rfl,hk,by simp,by simp,fun G w0 μ φ w y z hM hy hz=>?_⟩;obtain⟨h0,hp,hl⟩:=adr hp;cases hz with
    |pv hz=>cases hz with
     |int Lw=>
      cases hy with
      |pv hy=>obtain⟨b,o,cap,rfl,hr⟩:=hy.TV hp;refine⟨_,iT hu (by omega) h0 hl,?_⟩;rw[Addr.add_mid,←hs.1];exact .pv hr
   ·cases h
  ·rename_i e id hu;have key:∀(s:Nat)(et:TypeId)(es:List PV),(m id=some (.arr s et es)∨m id=some (.sq s et es))→s=aS E.P e∧0<s→ax i es.length→∀(G:Nat→Option (List PV))(w0:bu)(μ:Ro)(φ:Nat→aH)(w:World)(y z:Value),aA E.P G w0 μ φ m w→an E.P μ φ (.os id) y→an E.P μ φ (.pv (.int q i)) z→∃u,(Instr.indexAt t y z).run E.P w=.ok u w∧an E.P μ φ (.oe id i.toNat 0) u:=by
    intro s et es hm hs hr G w0 μ φ w y z hM hy hz;have hA:aL E.P μ φ w id s et es:=by
     rcases hm with hm|hm
     ·exact hM.dB id _ hm
     ·exact(hM.dB id _ hm).1
    obtain⟨a1,a2,a3,a4,a5,a6,a7⟩:=hA;cases hz with
    |pv hz=>cases hz with
     |int Lw=>
      cases hy with
      |vO hg=>grind [ax]
      | @os _ g hg=>refine⟨_,iT hu (by omega) hr.1 (by rw[a1];exact hr.2),?_⟩;rw[Addr.add_mid];have:=an.oe (P:=E.P) (μ:=μ) (φ:=φ) (id:=id) (i:=i.toNat) (off:=0) hg;simp_all
   split at h
   ·rename_i s et es hm;split at h
    ·rename_i hs;split at h
     ·rename_i hr;exact⟨_,_,fun m2 cG R' k'=>by have:=cG (false,id) (by simp);simp only at this;simp only[dh,hu,this,hm];grind,h,by simp,by simp[V.has],key s et es (.inl hm) hs hr⟩
     ·cases h
    ·cases h
   ·rename_i s et es hm;split at h
    ·rename_i hs;split at h
     ·rename_i hr;exact⟨_,_,fun m2 cG R' k'=>by have:=cG (false,id) (by simp);simp only at this;simp only[dh,hu,this,hm];grind,h,by simp,by simp[V.has],key s et es (.inr hm) hs hr⟩
     ·cases h
    ·cases h
   ·rename_i s et es hm;split at h
    ·rename_i hs;split at h
     ·rename_i hr;refine⟨_,_,fun m2 cG R' k'=>by have:=cG (false,id) (by simp);simp only at this;simp only[dh,hu,this,hm];grind,h,by simp,by simp[V.has],fun G w0 μ φ w y z hM hy hz=>?_⟩;have hA:bd E.P μ φ w id s et es:=hM.dB id _ hm;obtain⟨a1,a2,a3,a4,a5,a6,a7⟩:=hA;cases hz with
      |pv hz=>cases hz with
       |int Lw=>
        cases hy with
        |vO hg=>grind [ax]
        | @os _ g hg=>refine⟨_,iT hu (by omega) hr.1 (by rw[a1];exact hr.2),?_⟩;rw[Addr.add_mid];have:=an.oe (P:=E.P) (μ:=μ) (φ:=φ) (id:=id) (i:=i.toNat) (off:=0) hg;simp_all
     ·cases h
    ·cases h
   ·rename_i cs hm;split at h
    ·rename_i hs;refine⟨_,_,fun m2 cG R' k'=>by have:=cG (false,id) (by simp);simp_all[dh,No],h,by simp,by simp[V.has],fun G w0 μ φ w y z hM hy hz=>?_⟩;obtain⟨g,c,T,hg,hh,ou,hv,yj,KH⟩:=hM.dB id _ hm;cases hz with
     |pv hz=>cases hz with
      |int Lw=>
       cases hy with
       |vO cL=>simp_all
       | @os _ g' cL=>refine⟨_,iT hu (by omega) hs.2.1 (by rw[KH];exact hs.2.2),?_⟩;rw[Addr.add_mid,hs.1];have:=an.op (P:=E.P) (μ:=μ) (φ:=φ) (id:=id) (off:=i.toNat) cL;simpa using this
    ·cases h
   ·cases h
  ·rename_i e id i0 off hu;split at h
   ·rename_i s0 et0 es hm;split at h
    ·rename_i eY;obtain⟨e0,he,h⟩:=By.1 h;obtain⟨rs,Ry,h⟩:=By.1 h;split at h
     ·rename_i hr;refine⟨_,_,fun m2 cG R' k'=>by have:=cG (false,id) (by simp);simp_all[dh,No,aoe],h,by simp,by simp[V.has],fun G w0 μ φ w y z hM hy hz=>?_⟩;have hN:bd E.P μ φ w id s0 et0 es:=hM.dB id _ hm;obtain⟨_,_,_,_,⟨⟨Kz,hA⟩,_⟩,_⟩:=hN.row he Ry;obtain⟨a1,a2,a3,a4,a5,a6,a7⟩:=hA;cases hz with
      |pv hz=>cases hz with
       |int Lw=>
        cases hy with
        |MV hg=>have cL:((φ id).row i0 off).up.g=none:=hg;simp_all[ax]
        | @AJ _ _ _ g hg=>have a1':((φ id).row i0 off).len=rs.length:=a1;refine⟨_,iT hu (by omega) hr.1 (by rw[a1'];exact hr.2),?_⟩;rw[Addr.add_mid];have:=an.Ef (P:=E.P) (μ:=μ) (φ:=φ) (id:=id) (i:=i0) (off:=off) (s:=aS E.P e) (j:=i.toNat) (off2:=0) hg a2;simpa using this
     ·cases h
    ·cases h
   ·cases h
  ·rename_i e id lo len hu;have key:∀(s:Nat)(et:TypeId)(es:List PV),(m id=some (.arr s et es)∨m id=some (.sq s et es))→s=aS E.P e∧0<s→ax i len→∀(G:Nat→Option (List PV))(w0:bu)(μ:Ro)(φ:Nat→aH)(w:World)(y z:Value),aA E.P G w0 μ φ m w→an E.P μ φ (.gh id lo len) y→an E.P μ φ (.pv (.int q i)) z→∃u,(Instr.indexAt t y z).run E.P w=.ok u w∧an E.P μ φ (.oe id (lo+i.toNat) 0) u:=by
    intro s et es hm hs hr G w0 μ φ w y z hM hy hz;have hA:aL E.P μ φ w id s et es:=by
     rcases hm with hm|hm
     ·exact hM.dB id _ hm
     ·exact(hM.dB id _ hm).1
    obtain⟨a1,a2,a3,a4,a5,a6,a7⟩:=hA;cases hz with
    |pv hz=>cases hz with
     |int Lw=>
      cases hy with
      |uj hg=>simp[ax]at hr;omega
      | @gh _ _ _ HD g ad hg hl ha hc1 TW=>
       have ha:=ha.resolve_right fun hh=>by have:=hr.1;have:=hr.2;omega
       subst ha;refine⟨_,iT hu (by omega) hr.1 hr.2,?_⟩;rw[Addr.add_mid];have:=an.oe (P:=E.P) (μ:=μ) (φ:=φ) (id:=id) (i:=lo+i.toNat) (off:=0) hg;grind
   split at h
   ·rename_i s et es hm;split at h
    ·rename_i hs;split at h
     ·rename_i hr;exact⟨_,_,fun m2 cG R' k'=>by have:=cG (false,id) (by simp);simp only at this;simp only[dh,hu,this,hm];grind,h,by simp,by simp[V.has],key s et es (.inl hm) hs hr⟩
     ·cases h
    ·cases h
   ·rename_i s et es hm;split at h
    ·rename_i hs;split at h
     ·rename_i hr;exact⟨_,_,fun m2 cG R' k'=>by have:=cG (false,id) (by simp);simp only at this;simp only[dh,hu,this,hm];grind,h,by simp,by simp[V.has],key s et es (.inr hm) hs hr⟩
     ·cases h
    ·cases h
   ·cases h
  ·rename_i n e id off hu;split at h
   ·rename_i hr;refine⟨_,_,fun m2 _ R' k'=>by simp_all[dh,No],h,by simp,by simp[V.has],fun G w0 μ φ w y z hM hy hz=>?_⟩;cases hz with
    |pv hz=>cases hz with
     |int Lw=>
      cases hy with
      |op hg=>exact⟨_,mL hu (by omega) hr.1.1 hr.1.2,by rw[Addr.add_mid];exact .op hg⟩
   ·cases h
  ·rename_i n e cs hu;split at h
   ·rename_i hr;refine⟨_,_,fun m2 _ R' k'=>by simp_all[dh,No],h,by simp,by simp,fun G w0 μ φ w y z hM hy hz=>?_⟩;cases hz with
    |pv hz=>cases hz with
     |int Lw=>
      cases hy with
      |pv hy=>cases hy with
       |rp X h1 h2 h3=>exact⟨_,mL hu (by omega) hr.1.1 hr.1.2,by rw[Addr.add_mid];exact .pv (aq.MW _ (.rp X h1 h2 h3))⟩
   ·cases h
  ·rename_i n e id j off hu;split at h
   ·rename_i hr;split at h
    ·rename_i hb;refine⟨_,_,fun m2 cG R' k'=>by have:=cG (false,id) (by simp);simp_all[dh,No],h,by simp,by simp[V.has],fun G w0 μ φ w y z hM hy hz=>?_⟩;have ou:(φ id).sz=aS E.P e:=by
      split at hb
      ·rename_i s et es hm;rw[IT hb];have hA:aL E.P μ φ w id s et es:=hM.dB id _ hm;exact hA.2.1
      ·cases hb
     cases hz with
     |pv hz=>cases hz with
      |int Lw=>
       cases hy with
       |oe hg=>refine⟨_,mL hu (by omega) hr.1.1 hr.1.2,?_⟩;have:=an.oe (P:=E.P) (μ:=μ) (φ:=φ) (id:=id) (i:=i.toNat+j) (off:=off) hg;grind [Addr.add_mid,id,aS,Nat.add_mul]
    ·rename_i hb;refine⟨_,_,fun m2 cG R' k'=>by have:=cG (false,id) (by simp);simp_all[dh,No],h,by simp,by simp[V.has],fun G w0 μ φ w y z hM hy hz=>?_⟩;cases hz with
     |pv hz=>cases hz with
      |int Lw=>
       cases hy with
       |oe hg=>exact⟨_,mL hu (by omega) hr.1.1 hr.1.2,by rw[Addr.add_mid,aoT];exact .oe hg⟩
   ·cases h
  ·cases h
 ·cases h
theorem rJ{cs:List V}(h:ug x=some cs):(∀id,cp id cs=true→x.has id=true)∧∀(P:Program)(μ:Ro)(φ:Nat→aH)y,an P μ φ x y→∃xs:Array Value,y=.agg xs∧cs.length=xs.size∧(∀(i:Nat)p x,cs[i]?=some p→xs[i]?=some x→an P μ φ p x)∧(∀(i:Nat)(x:Value),xs[i]?=some x→x.oneCell'=true):=by
 unfold ug at h;split at h
 ·simp only[tb]at h;subst h;refine⟨fun id hid=>(by rw[TU]at hid;cases hid),fun P μ φ y hy=>?_⟩;cases hy with
  |pv hy=>cases hy with
   |agg h1 h2 h3=>refine⟨_,rfl,by simpa using h1,fun i p x hi hx=>?_,h3⟩;simp only[AT,alj]at hi;obtain⟨q,hq,rfl⟩:=hi;exact .pv (h2 i q x hq hx)
 ·simp only[tb]at h;subst h;refine⟨fun id hid=>by simpa[V.has]using hid,fun P μ φ y hy=>?_⟩;cases hy with
  |agg h1 h2 h3=>grind
 ·cases h
variable{xs:Array Value}{off:Nat}
theorem Es(ha:aG P t=true):(part t xs off).run P w=.ok (.agg (xs.extract off (off+aS P t))) w:=by obtain⟨d,hu,_⟩:=IA ha;simp_all[part,FO,GX]
theorem Et{d:TypeDesc}{y:Value}(hu:P.underlying t=some d)(ha:aG P t=false)(hy:xs[off]?=some y):(part t xs off).run P w=.ok y w:=by simp[part,FO hu,ha,hy]
theorem O0{cs:List V}(h:Ii E t cs off k=some r):∃v,(∀(R':Type)(k':V→Option R'),Ii E t cs off k'=k' v)∧k v=some r∧(∀id,v.has id=true→cp id cs=true)∧∀(μ:Ro)(φ:Nat→aH)(w:World)(xs:Array Value),cs.length=xs.size→(∀(i:Nat)p x,cs[i]?=some p→xs[i]?=some x→an E.P μ φ p x)→(∀(i:Nat)(x:Value),xs[i]?=some x→x.oneCell'=true)→∃z,(part t xs off).run E.P w=.ok z w∧an E.P μ φ v z:=by
 unfold Ii at h;split at h
 ·rename_i ha;split at h
  ·rename_i hn;refine⟨_,fun R' k'=>by simp[Ii,ha,hn],h,fun id hid=>?_,fun μ φ w xs h1 h2 h3=>⟨_,Es ha,?_⟩⟩
   ·simp only[V.has]at hid;obtain⟨v,hv,hh⟩:=cK.1 hid;grind [bR,List.mem_of_mem_drop,List.mem_of_mem_take]
   ·refine .agg (by simp;omega) (fun i p x hi hx=>?_) (fun i x hx=>?_)
    ·grind
    grind [Array.getElem?_extract]
  ·cases h
 ·rename_i ha;have ha:aG E.P t=false:=by simpa using ha
  split at h
  ·rename_i v hv;obtain⟨u,h1,h2,h3,h4⟩:=OY h;obtain⟨d,hu⟩:=Lp h;refine⟨u,fun R' k'=>by simp[Ii,ha,hv,h1],h2,fun id hid=>bR (an4 hv) (h4 id hid),fun μ φ w xs g1 g2 g3=>?_⟩;have bF:off<cs.length:=(IN.1 hv).1;have hx:xs[off]?=some xs[off]:=Yh (by omega);grind [Et]
  ·cases h
theorem Ws(h:Ij E s x j k=some r):∃v,(∀(R':Type)(k':V→Option R'),Ij E s x j k'=k' v)∧k v=some r∧(∀id,v.has id=true→x.has id=true)∧∀(μ:Ro)(φ:Nat→aH)(w:World)(y:Value),an E.P μ φ x y→∃z,(Instr.field s y j).run E.P w=.ok z w∧an E.P μ φ v z:=by
 unfold Ij at h;split at h
 ·rename_i o t cs ho hc;obtain⟨fs,f,hu,hf,rfl,rfl,hz⟩:=GY ho;obtain⟨v,h1,h2,h3,h4⟩:=O0 h;obtain⟨c1,c2⟩:=rJ hc;refine⟨v,fun R' k'=>by simp[Ij,ho,hc,h1],h2,fun id hid=>c1 id (h3 id hid),fun μ φ w y hy=>?_⟩;obtain⟨xs,rfl,g1,g2,g3⟩:=c2 _ _ _ _ hy;obtain⟨z,hz,hv⟩:=h4 μ φ w xs g1 g2 g3;exact⟨z,by simp[Instr.field,run_underlying hu,hf,Go.asAgg,hz],hv⟩
 ·cases h
theorem wf_u8(b:UInt8):(Lit.int .u8 b.toNat).wf=true:=by rw[yX];have:=b.toNat_lt;simp[IntKind.min,IntKind.max,IntKind.signed,IntKind.bits];omega
theorem Wt{ix:V}(h:FG E t x ix k=some r):∃v,(∀(R':Type)(k':V→Option R'),FG E t x ix k'=k' v)∧k v=some r∧(∀id,v.has id=true→x.has id=true)∧∀(μ:Ro)(φ:Nat→aH)(w:World)(y z:Value),an E.P μ φ x y→an E.P μ φ ix z→∃u,(Instr.index t y z).run E.P w=.ok u w∧an E.P μ φ v u:=by
 unfold FG at h;split at h
 ·rename_i q i;split at h
  ·rename_i s hu;obtain⟨b,hb,hk⟩:=By.1 h;refine⟨_,fun R' k'=>by simp[FG,hu,hb],hk,by simp,fun μ φ w y z hy hz=>?_⟩;cases hz with
   |pv hz=>cases hz with
    |int Lw=>
     cases hy with
     |pv hy=>cases hy with
      |str hl=>
       unfold Rm at hb;split at hb
       ·rename_i h0;have bF:=(IN.1 hb).1;have jn:(⟨s.toArray⟩:ByteArray)[i.toNat]?=some b:=by
         rw[getElem?_def];have:i.toNat<(⟨s.toArray⟩:ByteArray).size:=by simpa[ByteArray.size]using bF
         rw[dif_pos this];have e:=(IN.1 hb).2;simp only[tb];rw[←e];rfl
        refine⟨_,?_,.pv (.int (wf_u8 b))⟩;simp[Instr.index,asIntOf,run_underlying hu,h0,jn]
       ·cases hb
  ·rename_i n et hu;split at h
   ·rename_i cs hc;split at h
    ·rename_i hn;obtain⟨v,h1,h2,h3,h4⟩:=O0 h;obtain⟨c1,c2⟩:=rJ hc;refine⟨v,fun R' k'=>by simp only[FG,hu,hc];rw[No hn,h1],h2,fun id hid=>c1 id (h3 id hid),fun μ φ w y z hy hz=>?_⟩;obtain⟨xs,rfl,g1,g2,g3⟩:=c2 _ _ _ _ hy;obtain⟨u,hu1,hv⟩:=h4 μ φ w xs g1 g2 g3;cases hz with
     |pv hz=>cases hz with
      |int Lw=>refine⟨u,?_,hv⟩;have hr:=hn.1;unfold ax at hr;simp[Instr.index,asIntOf,run_underlying hu,hr.1,hr.2,jU (show aS E.P et≠0 by omega),hu1]
    ·cases h
   ·cases h
  ·cases h
 ·cases h
end
section
variable {R:Type} {E:Env}
theorem IB(s:Bytes):(⟨s.toArray⟩:ByteArray).size=s.length:=by rfl
theorem IC{n:Nat}(h:n≤maxLen):(Lit.int .i64 (n:Int)).wf=true:=by grind [yX,maxLen,IntKind.min,IntKind.max,IntKind.signed,IntKind.bits]
variable{P:Program}{μ:Ro}{sz:Nat}{es:List PV}
theorem afE{x:Value}(h:aq P μ (.rs sz es) x):∃a cap,x=.slice a es.length cap∧es.length≤maxLen:=by
 cases h with
 |l5=>simp
 | @Ox _ cap a h=>simp
 |rs X h1 h2=>grind
variable{φ:Nat→aH}{m:Mem}{w:World}
theorem aA.arr{G:Nat→Option (List PV)}{w0:bu}(hM:aA P G w0 μ φ m w){id s:Nat}{et:TypeId}(hm:m id=some (.arr s et es)∨m id=some (.sq s et es)):aL P μ φ w id s et es:=by
 rcases hm with hm|hm
 ·exact hM.dB id _ hm
 ·exact(hM.dB id _ hm).1
theorem aL.rK{id s:Nat}{et:TypeId}(h:aL P μ φ w id s et es):es.length≤(φ id).cap∧(φ id).cap≤maxLen:=by obtain⟨a1,a2,a3,a4,a5,a6,a7⟩:=h;grind
variable{x:V}{k:Nat→bB→Option R}{r:R}
theorem ads(h:KE m x k=some r):∃n ft,(∀m2:Mem,(∀x∈ft,m2 x.2=m x.2)→∀(R':Type)(k':Nat→bB→Option R'),KE m2 x k'=k' n ft)∧k n ft=some r∧(∀x∈ft,x.1=false)∧∀(P:Program)(G:Nat→Option (List PV))(w0:bu)(μ:Ro)(φ:Nat→aH)(w:World)(y:Value),aA P G w0 μ φ m w→an P μ φ x y→(∀id,x.has id=true→(m id).isSome=true)→n≤maxLen∧∃a cap,y=.slice a n cap:=by
 unfold KE at h;split at h
 ·refine⟨_,_,fun m2 _ R' k'=>by rfl,h,by simp,fun P G w0 μ φ w y hM hy _=>?_⟩;cases hy with
  |pv hy=>obtain⟨a,cap,rfl,hl⟩:=afE hy;simp_all
 ·refine⟨_,_,fun m2 _ R' k'=>by rfl,h,by simp,fun P G w0 μ φ w y hM hy _=>?_⟩;cases hy;simp
 ·rename_i id lo len;have key:∀(s:Nat)(et:TypeId)(es:List PV),(m id=some (.arr s et es)∨m id=some (.sq s et es))→∀(P:Program)(G:Nat→Option (List PV))(w0:bu)(μ:Ro)(φ:Nat→aH)(w:World)(y:Value),aA P G w0 μ φ m w→an P μ φ (.gh id lo len) y→len≤maxLen∧∃a cap,y=.slice a len cap:=by
   intro s et es hm P G w0 μ φ w y hM hy;have hA:=hM.arr hm;have hl:=hA.rK;cases hy with
   |uj=>simp
   |gh hg hl' ha=>grind
  split at h
  ·rename_i s et es hm;exact⟨_,_,fun m2 cG R' k'=>by have:=cG (false,id) (by simp);simp_all[KE],h,by simp,fun P G w0 μ φ w y hM hy _=>key s et es (.inl hm) P G w0 μ φ w y hM hy⟩
  ·rename_i s et es hm;exact⟨_,_,fun m2 cG R' k'=>by have:=cG (false,id) (by simp);simp_all[KE],h,by simp,fun P G w0 μ φ w y hM hy _=>key s et es (.inr hm) P G w0 μ φ w y hM hy⟩
  ·cases h
 ·rename_i id;split at h
  ·rename_i s et es hm;refine⟨_,_,fun m2 cG R' k'=>by have:=cG (false,id) (by simp);simp_all[KE],h,by simp,fun P G w0 μ φ w y hM hy _=>?_⟩;have hA:=hM.arr (.inl hm);have hl:=hA.rK;obtain⟨a1,a2,a3,a4,a5,a6,a7⟩:=hA;refine⟨by omega,?_⟩;cases hy with
   |vO hg=>simp_all
   |os hg=>simp_all
  ·rename_i s et es hm;refine⟨_,_,fun m2 cG R' k'=>by have:=cG (false,id) (by simp);simp_all[KE],h,by simp,fun P G w0 μ φ w y hM hy _=>?_⟩;have hA:=hM.arr (.inr hm);have hl:=hA.rK;obtain⟨a1,a2,a3,a4,a5,a6,a7⟩:=hA;refine⟨by omega,?_⟩;cases hy with
   |vO hg=>simp_all
   |os hg=>simp_all
  ·rename_i s et es hm;refine⟨_,_,fun m2 cG R' k'=>by have:=cG (false,id) (by simp);simp_all[KE],h,by simp,fun P G w0 μ φ w y hM hy _=>?_⟩;have hA:bd P μ φ w id s et es:=hM.dB id _ hm;obtain⟨a1,a2,a3,a4,a5,a6,a7⟩:=hA;have hl:es.length≤(φ id).cap:=by grind
   refine⟨by omega,?_⟩;cases hy with
   |vO hg=>simp_all
   |os hg=>simp_all
  ·rename_i cs hm;split at h
   ·rename_i hlen;refine⟨_,_,fun m2 cG R' k'=>by have:=cG (false,id) (by simp);simp_all[KE],h,by simp,fun P G w0 μ φ w y hM hy _=>?_⟩;obtain⟨g,c,T,hg,hh,hs,hv,yj,KH⟩:=hM.dB id _ hm;refine⟨hlen,?_⟩;cases hy with
    |vO cL=>simp_all
    |os cL=>simp_all
   ·cases h
  ·cases h
 ·cases h
theorem adt(h:Wn sz m x k=some r):∃n ft,(∀m2:Mem,(∀x∈ft,m2 x.2=m x.2)→∀(R':Type)(k':Nat→bB→Option R'),Wn sz m2 x k'=k' n ft)∧k n ft=some r∧(∀x∈ft,x.1=false)∧∀(P:Program)(G:Nat→Option (List PV))(w0:bu)(μ:Ro)(φ:Nat→aH)(w:World)(y:Value),aA P G w0 μ φ m w→an P μ φ x y→(∀id,x.has id=true→(m id).isSome=true)→n≤maxLen∧∃a cap,y=.slice a n cap:=by
 unfold Wn at h;split at h
 ·rename_i id i off;split at h
  ·rename_i s et es hm;obtain⟨e,he,h⟩:=By.1 h;obtain⟨rs,hr,h⟩:=By.1 h;refine⟨_,_,fun m2 cG R' k'=>by have:=cG (false,id) (by simp);simp_all[Wn],h,by simp,fun P G w0 μ φ w y hM hy _=>?_⟩;have hN:bd P μ φ w id s et es:=hM.dB id _ hm;obtain⟨_,_,_,_,⟨⟨Kz,hA⟩,_⟩,_⟩:=hN.row he hr;have hl:=hA.rK;have a1:=hA.1;refine⟨by omega,?_⟩;have hy:=hy.Rx (ν:=μ);cases hy with
   |vO hg=>have a7:=hA.2.2.2.2.2.2;simp_all
   |os hg=>simp_all
  ·cases h
 ·rename_i bU;obtain⟨n,ft,h1,h2,h3,h4⟩:=ads h;refine⟨n,ft,fun m2 cG R' k'=>?_,h2,h3,h4⟩;unfold Wn;simp_all
theorem adu(h:YW m x k=some r):∃n ft,(∀m2:Mem,(∀x∈ft,m2 x.2=m x.2)→∀(R':Type)(k':Nat→bB→Option R'),YW m2 x k'=k' n ft)∧k n ft=some r∧(∀x∈ft,x.1=false)∧n≤maxLen∧∀(P:Program)(G:Nat→Option (List PV))(w0:bu)(μ:Ro)(φ:Nat→aH)(w:World)(y:Value)(t kt et ty:TypeId),P.underlying t=some (.map kt et)→aA P G w0 μ φ m w→an P μ φ x y→(Builtin.len_ #[t] ty #[y]).run P w=.ok (.int .i64 n) w:=by
 unfold YW at h;split at h
 ·rename_i id;split at h
  ·rename_i kt es hm;split at h
   ·rename_i hl;refine⟨_,_,fun m2 cG R' k'=>by have:=cG (false,id) (by simp);simp_all[YW],h,by simp,hl,fun P G w0 μ φ w y t kt et ty hu hM hy=>?_⟩;cases hy with
    | @om _ g hg=>obtain⟨g',en,clock,kk,cL,hh,hs,_⟩:=hM.dB id _ hm;simp_all[tb,Builtin.len_,run_underlying,getObj,Sem.run,goInt]
   ·cases h
  ·cases h
 ·refine⟨_,_,fun m2 _ R' k'=>by rfl,h,by simp,by simp,fun P G w0 μ φ w y t kt et ty hu hM hy=>?_⟩;cases hy with
  |pv hy=>cases hy;simp[Builtin.len_,run_underlying hu,goInt]
 ·cases h
variable{t:TypeId}
theorem adv{k:V→bB→Option R}(h:OK E t x m k=some r):∃v ft,(∀m2:Mem,(∀x∈ft,m2 x.2=m x.2)→∀(R':Type)(k':V→bB→Option R'),OK E t x m2 k'=k' v ft)∧k v ft=some r∧(∀x∈ft,x.1=false)∧(∀id,v.has id=false)∧∀(G:Nat→Option (List PV))(w0:bu)(μ:Ro)(φ:Nat→aH)(w:World)(y:Value)(ty:TypeId),aA E.P G w0 μ φ m w→an E.P μ φ x y→(∀id,x.has id=true→(m id).isSome=true)→∃z,(Builtin.len_ #[t] ty #[y]).run E.P w=.ok z w∧an E.P μ φ v z:=by
 unfold OK at h;split at h
 ·rename_i n e hu;split at h
  ·rename_i hn;exact⟨_,_,fun m2 _ R' k'=>by simp[OK,hu,hn],h,by simp,by simp,fun G w0 μ φ w y ty hM hy _=>⟨_,by simp[Builtin.len_,run_underlying hu,goInt],.pv (.int (IC hn))⟩⟩
  ·cases h
 ·rename_i hu;split at h
  ·refine⟨_,_,fun m2 _ R' k'=>by simp[OK,hu],h,by simp,by simp,fun G w0 μ φ w y ty hM hy _=>?_⟩;cases hy with
   |pv hy=>cases hy with
    | @str s hl=>exact⟨_,by simp[Builtin.len_,run_underlying hu,goInt,IB],.pv (.int (IC hl))⟩
  ·cases h
 ·rename_i e hu;obtain⟨n,ft,h1,h2,h3,h4⟩:=adt h;refine⟨_,ft,fun m2 cG R' k'=>by simp only[OK,hu];rw[h1 m2 cG],h2,h3,by simp,fun G w0 μ φ w y ty hM hy hq=>?_⟩;obtain⟨hl,a,cap,rfl⟩:=h4 _ _ _ _ _ _ _ hM hy hq;exact⟨_,by simp[Builtin.len_,run_underlying hu,goInt],.pv (.int (IC hl))⟩
 ·rename_i kt et hu;obtain⟨n,ft,h1,h2,h3,hl,h4⟩:=adu h;refine⟨_,ft,fun m2 cG R' k'=>by simp only[OK,hu];rw[h1 m2 cG],h2,h3,by simp,fun G w0 μ φ w y ty hM hy hq=>?_⟩;exact⟨_,h4 _ _ _ _ _ _ _ _ _ _ _ hu hM hy,.pv (.int (IC hl))⟩
 ·cases h
theorem ID{d i:Int}{v:Option V}(h:kg d v=some i):(v=none∧i=d)∨∃q,v=some (.pv (.int q i)):=by unfold kg at h;grind
theorem run_sliceBound{P:Program}{w:World}{q:IntKind}{i:Int}{y:Nat}{code:BoundsCode}(h0:0≤i)(h1:i≤(y:Int)):(Instr.sliceBound (.int q i) y code).run P w=.ok i.toNat w:=by simp[Instr.sliceBound,asIntOf,h0,h1]
variable{IE l8:Option Value}
theorem mM{isS:Bool}{len cap:Nat}{l h:Int}{lo hi:Option V}(hl:kg 0 lo=some l)(hh:kg len hi=some h)(rl:∀v,lo=some v→∃y,IE=some y∧an P μ φ v y)(rl0:lo=none→IE=none)(rh:∀v,hi=some v→∃y,l8=some y∧an P μ φ v y)(rh0:hi=none→l8=none)(b0:0≤l)(b1:l≤h)(b2:h≤(len:Int))(b3:len≤cap):(Instr.sliceBounds isS len cap IE l8 none).run P w=.ok (l.toNat,h.toNat,cap) w:=by
 have e1:∃y,(l8=none∧h=len)∨(l8=some y∧∃q,y=.int q h):=by
  rcases ID hh with⟨rfl,rfl⟩|⟨q,rfl⟩
  ·simp_all
  ·obtain⟨y,rfl,hy⟩:=rh _ rfl;cases hy with
   |pv hy=>cases hy with
    |int hw=>simp
 have e2:∃y,(IE=none∧l=0)∨(IE=some y∧∃q,y=.int q l):=by
  rcases ID hl with⟨rfl,rfl⟩|⟨q,rfl⟩
  ·simp_all
  ·obtain⟨y,rfl,hy⟩:=rl _ rfl;cases hy with
   |pv hy=>cases hy with
    |int hw=>simp
 clear rl rl0 rh rh0 hl hh;obtain⟨y,⟨rfl,rfl⟩|⟨rfl,q,rfl⟩⟩:=e1<;>obtain⟨z,⟨rfl,rfl⟩|⟨rfl,q',rfl⟩⟩:=e2
 ·rfl
 ·simp_all[run_sliceBound,Instr.sliceBounds]
 ·have:= @run_sliceBound P w q h cap (if isS then BoundsCode.sliceAcap else .sliceAlen) (by omega) (by omega);simp[Instr.sliceBounds,this]
 ·have h1:= @run_sliceBound P w q h cap (if isS then BoundsCode.sliceAcap else .sliceAlen) (by omega) (by omega);have h2:= @run_sliceBound P w q' l h.toNat BoundsCode.sliceB b0 (by omega);simp[Instr.sliceBounds,h1,h2]
theorem str_slice{s:Bytes}{l h:Nat}(hl:l≤h)(hh:h≤s.length):(⟨s.toArray⟩:ByteArray).extract l h=⟨((s.take h).drop l).toArray⟩:=by apply ByteArray.ext;simp[ByteArray.data_extract,apI,List.extract_eq_take_drop,List.drop_take]
theorem Ze{x:Value}{l h:Nat}(hx:aq P μ (.rs sz es) x)(hl:l≤h)(hh:h≤es.length):∃a cap,x=.slice a es.length cap∧es.length≤cap∧aq P μ (.rs sz ((es.take h).drop l)) (.slice (if cap=l then a else a.map (·.add (l*sz))) (h-l) (cap-l)):=by
 have hlen:((es.take h).drop l).length=h-l:=by simp;omega
 cases hx with
 |l5=>
  simp at hh;subst hh;have:l=0:=by omega
  subst this;exact⟨none,0,rfl,by simp,by simpa using aq.l5⟩
 | @Ox _ cap a hc=>
  simp at hh;subst hh;have:l=0:=by omega
  subst this;refine⟨some a,cap,rfl,by simp,?_⟩;have:(if cap=0 then some a else(some a).map (·.add (0*sz)))=some a:=by split<;>simp[Addr.add]
  rw[this];exact .Ox hc
 | @rs _ _ b o cap X h1 h2 h3 h4 h5 h6=>
  refine⟨_,cap,rfl,h1,?_⟩;have ey:∀(i:Nat)e,((es.take h).drop l)[i]?=some e→es[l+i]?=some e:=fun i e hi=>(iS (yg hi)).2;by_cases hz:h=l
  ·have:(es.take h).drop l=[]:=aof (by omega);rw[this];have hz':h-l=0:=by omega
   rw[hz'];split
   ·exact .Ox (by omega)
   ·simp only[IS];exact .Ox (by omega)
  ·have hc:cap≠l:=by omega
   rw[QU hc];simp only[IS,Addr.add_mid];have:=aq.rs (P:=P) (μ:=μ) (sz:=sz) (es:=(es.take h).drop l) (b:=b) (o:=o+l*sz) (cap:=cap-l) (fun i j=>X (l+i) j) (by omega) (by omega) (fun i e hi=>h3 _ e (ey i e hi)) (fun i e j p hi hj=>by grind) (fun i e j p hi hj=>h5 _ e j p (ey i e hi) hj) (fun i e j p hi hj=>h6 _ e j p (ey i e hi) hj);simp_all
theorem yY{e:TypeId}{a:Option Addr}{len cap l h:Nat}(hu:P.underlying t=some (.slice e))(hz:aS P e≠0)(hb:(Instr.sliceBounds true len cap IE l8 none).run P w=.ok (l,h,cap) w):(Instr.sliceAt t (.slice a len cap) IE l8 none).run P w=.ok (.slice (if cap=l then a else a.map (·.add (l*aS P e))) (h-l) (cap-l)) w:=by simp_all[Instr.sliceAt,Instr.slice,run_underlying,jU]
theorem Wu{lo hi mx:Option V}{k:V→bB→Option R}(h:yR E t x lo hi mx m k=some r):∃v ft,(∀m2:Mem,(∀x∈ft,m2 x.2=m x.2)→∀(R':Type)(k':V→bB→Option R'),yR E t x lo hi mx m2 k'=k' v ft)∧k v ft=some r∧(∀x∈ft,x.1=false)∧(∀id,v.has id=true→x.has id=true)∧∀(G:Nat→Option (List PV))(w0:bu)(μ:Ro)(φ:Nat→aH)(w:World)(y:Value)(IE l8 mx':Option Value),aA E.P G w0 μ φ m w→an E.P μ φ x y→(∀v,lo=some v→∃y,IE=some y∧an E.P μ φ v y)→(lo=none→IE=none)→(∀v,hi=some v→∃y,l8=some y∧an E.P μ φ v y)→(hi=none→l8=none)→(∀v,mx=some v→∃y,mx'=some y∧an E.P μ φ v y)→(mx=none→mx'=none)→∃z,(Instr.sliceAt t y IE l8 mx').run E.P w=.ok z w∧an E.P μ φ v z:=by
 unfold yR at h;split at h
 ·rename_i mv;split at h
  ·rename_i e id hu;split at h
   ·rename_i s et es hm;split at h
    ·rename_i qh hh qc c;split at h
     ·rename_i hb;refine⟨_,_,fun m2 cG R' k'=>by have:=cG (false,id) (by simp);simp_all[yR,No],h,by simp,by simp[V.has],fun G w0 μ φ w y IE l8 mx' hM hy r1 r2 r3 r4 r5 r6=>?_⟩;have hA:=hM.arr (.inl hm);have hle:=hA.rK;obtain⟨a1,a2,a3,a4,a5,a6,a7⟩:=hA;obtain⟨ym,rfl,hym⟩:=r5 _ rfl;have hlo:=r2 rfl;subst hlo;cases hym with
      |pv hym=>cases hym with
       |int hwc=>
        have hB:∀len cap:Nat,len=es.length→c≤(cap:Int)→(Instr.sliceBounds true len cap none l8 (some (.int qc c))).run E.P w=.ok (0,hh.toNat,c.toNat) w:=by
         intro len cap hlen tB;have h1:= @run_sliceBound E.P w qc c cap BoundsCode.slice3Acap (by omega) tB;obtain⟨yh,rfl,hyh⟩:=r3 _ rfl;cases hyh with
         |pv hyh=>cases hyh with
          |int hwh=>have h2:= @run_sliceBound E.P w qh hh c.toNat BoundsCode.slice3B (by omega) (by omega);simp[Instr.sliceBounds,h1,h2]
        have hS:∀(a:Option Addr)(len cap:Nat),len=es.length→c≤(cap:Int)→(Instr.sliceAt t (.slice a len cap) none l8 (some (.int qc c))).run E.P w=.ok (.slice (if c.toNat=0 then a else a.map (·.add (0*aS E.P e))) hh.toNat c.toNat) w:=by intro a len cap hlen tB;simp[Instr.sliceAt,Instr.slice,run_underlying hu,hB len cap hlen tB,jU (show aS E.P e≠0 by omega)]
        cases hy with
        |vO hg=>
         rw[hg]at a7;have h0:es.length=0:=by omega
         refine⟨_,hS none 0 0 h0.symm (by omega),?_⟩;have e1:hh.toNat=0:=by omega
         have e2:c.toNat=0:=by omega
         rw[e1,e2];exact .uj hg
        | @os _ g hg=>
         refine⟨_,hS _ _ _ a1 (by omega),?_⟩;have:(if c.toNat=0 then some (⟨g,0,none⟩:Addr)else(some ⟨g,0,none⟩:Option Addr).map (·.add (0*aS E.P e)))=some ⟨g,0*(φ id).sz,none⟩:=by split<;>simp[Addr.add]
         rw[this];exact .gh hg (by omega) (.inl rfl) (by omega) (by omega)
     ·cases h
    ·cases h
   ·cases h
  ·cases h
 ·split at h
  ·rename_i s hu;split at h
   ·rename_i l hh hl hhh;split at h
    ·rename_i hb;refine⟨_,_,fun m2 _ R' k'=>by simp_all[yR,No],h,by simp,by simp,fun G w0 μ φ w y IE l8 mx' hM hy r1 r2 r3 r4 _ r6=>?_⟩;have hmx:=r6 rfl;subst hmx;cases hy with
     |pv hy=>cases hy with
      |str hlen=>have hB:=mM (P:=E.P) (w:=w) (isS:=false) (cap:=s.length) hl hhh r1 r2 r3 r4 hb.1 hb.2.1 hb.2.2 (aoa _);refine⟨_,?_,.pv (.str (s:=(s.take hh.toNat).drop l.toNat) (by simp;omega))⟩;simp only[Instr.sliceAt,Instr.slice,Sem.run_bind,run_underlying hu,Result.andThen_ok,IB,hB];simp only[apS,AI,OF,Sem.run_bind,Sem.run_pure,Result.andThen_ok,hB];rw[str_slice (by omega) (by omega)]
    ·cases h
   ·cases h
  ·rename_i e sz es hu;split at h
   ·rename_i l hh hl hhh;split at h
    ·rename_i hb;refine⟨_,_,fun m2 _ R' k'=>by simp_all[yR,No],h,by simp,by simp,fun G w0 μ φ w y IE l8 mx' hM hy r1 r2 r3 r4 _ r6=>?_⟩;have hmx:=r6 rfl;subst hmx;cases hy with
     |pv hy=>obtain⟨a,cap,rfl,hc,hr⟩:=Ze (l:=l.toNat) (h:=hh.toNat) hy (by omega) (by omega);have hB:=mM (P:=E.P) (w:=w) (isS:=true) (cap:=cap) hl hhh r1 r2 r3 r4 hb.1 hb.2.1 hb.2.2.1 hc;exact⟨_,yY hu hb.2.2.2.2 hB,by rw[←hb.2.2.2.1];exact .pv hr⟩
    ·cases h
   ·cases h
  ·rename_i e id hu;have key:∀(s:Nat)(et:TypeId)(es:List PV)(l hh:Int),(m id=some (.arr s et es)∨m id=some (.sq s et es))→kg 0 lo=some l→kg es.length hi=some hh→(0≤l∧l≤hh∧hh≤(es.length:Int)∧s=aS E.P e)→∀(G:Nat→Option (List PV))(w0:bu)(μ:Ro)(φ:Nat→aH)(w:World)(y:Value)(IE l8:Option Value),aA E.P G w0 μ φ m w→an E.P μ φ (.os id) y→(∀v,lo=some v→∃y,IE=some y∧an E.P μ φ v y)→(lo=none→IE=none)→(∀v,hi=some v→∃y,l8=some y∧an E.P μ φ v y)→(hi=none→l8=none)→∃z,(Instr.sliceAt t y IE l8 none).run E.P w=.ok z w∧an E.P μ φ (.gh id l.toNat (hh.toNat-l.toNat)) z:=by
    intro s et es l hh hm hl hhh hb G w0 μ φ w y IE l8 hM hy r1 r2 r3 r4;have hA:=hM.arr hm;have hle:=hA.rK;obtain⟨a1,a2,a3,a4,a5,a6,a7⟩:=hA;cases hy with
    |vO hg=>
     rw[hg]at a7;have h0:es.length=0:=by omega
     have hB:=mM (P:=E.P) (w:=w) (isS:=true) (cap:=0) hl hhh r1 r2 r3 r4 hb.1 hb.2.1 hb.2.2.1 (by omega);rw[h0]at hB;refine⟨_,yY hu (by omega) hB,?_⟩;have e1:l.toNat=0:=by omega
     have e2:hh.toNat=0:=by omega
     rw[e1,e2];exact .uj hg
    | @os _ g hg=>
     have hB:=mM (P:=E.P) (w:=w) (isS:=true) (cap:=(φ id).cap) hl hhh r1 r2 r3 r4 hb.1 hb.2.1 hb.2.2.1 (by omega);rw[←a1]at hB;refine⟨_,yY hu (by omega) hB,?_⟩;by_cases hc:(φ id).cap=l.toNat
     ·rw[No hc];by_cases h0:l.toNat=0
      ·rw[h0];exact .gh hg (by omega) (.inl (by simp)) (by omega) (by omega)
      ·exact .gh hg (by omega) (.inr ⟨hc,by omega⟩) (by omega) (by omega)
     ·rw[QU hc];simp only[IS,Addr.add_mid,apa];refine .gh hg (by omega) (.inl ?_) (by omega) (by omega);rw[a2,hb.2.2.2]
   split at h
   ·rename_i s et es hm;split at h
    ·rename_i l hh hl hhh;split at h
     ·rename_i hb;exact⟨_,_,fun m2 cG R' k'=>by have:=cG (false,id) (by simp);simp_all[yR,No],h,by simp,by simp[V.has],fun G w0 μ φ w y IE l8 mx' hM hy r1 r2 r3 r4 _ r6=>by rw[r6 rfl];exact key s et es l hh (.inl hm) hl hhh hb G w0 μ φ w y IE l8 hM hy r1 r2 r3 r4⟩
     ·cases h
    ·cases h
   ·rename_i s et es hm;split at h
    ·rename_i l hh hl hhh;split at h
     ·rename_i hb;exact⟨_,_,fun m2 cG R' k'=>by have:=cG (false,id) (by simp);simp_all[yR,No],h,by simp,by simp[V.has],fun G w0 μ φ w y IE l8 mx' hM hy r1 r2 r3 r4 _ r6=>by rw[r6 rfl];exact key s et es l hh (.inr hm) hl hhh hb G w0 μ φ w y IE l8 hM hy r1 r2 r3 r4⟩
     ·cases h
    ·cases h
   ·cases h
  ·cases h
end
end Go.Ab
