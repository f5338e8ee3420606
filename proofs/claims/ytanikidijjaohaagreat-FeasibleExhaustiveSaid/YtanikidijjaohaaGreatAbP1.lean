import Derived.Test.YtanikidijjaohaaGreatAbEval
import Derived.Below
import Derived.Laws.CopyRow
import Derived.Deep.MidRow
set_option linter.unusedVariables false
set_option linter.unusedSimpArgs false
namespace Go.Ab
open Go.RowKit (Below)
abbrev Ro:=Nat→Option Obj
def Zx:Bool:=true
structure lA(B:Nat)(w w':World):Prop extends Below B w w' where
 drawn:Zx=true→w.drawn≤w'.drawn
namespace lA
theorem refl(B:Nat)(w:World):lA B w w:=⟨Below.refl B w,fun _=>ajC _⟩
theorem trans{B:Nat}{a b c:World}(h:lA B a b)(k:lA B b c):lA B a c:=⟨h.toBelow.trans k.toBelow,fun u=>ajP (h.drawn u) (k.drawn u)⟩
theorem mono{B B':Nat}{w w':World}(h:lA B w w')(hB:B'≤B):lA B' w w':=⟨h.toBelow.mono hB,h.drawn⟩
theorem drew{B:Nat}{a w:World}(h:lA B a w):lA B a w.drew:=⟨h.toBelow.drew,fun u=>Nat.le_succ_of_le (h.drawn u)⟩
theorem heap_alloc(w:World)(o:Obj)(k:Nat)(h:k<w.heap.size):(w.alloc o).heap[k]?=w.heap[k]?:=Below.heap_alloc w o k h
theorem alloc{B:Nat}{a w:World}(h:lA B a w)(hB:B≤w.heap.size)(o:Obj):lA B a (w.alloc o):=⟨h.toBelow.alloc hB o,h.drawn⟩
end lA
def Jmp.code:Jmp→Code
 |.ret=>.ret
 |.exit id=>.exit id
def N2.obj(rc:Loop):N2→Loop
 |.ready=>{rc with state:=.ready,pending:=none}
 |.busy=>{rc with state:=.busy,pending:=none}
 |.done j=>{rc with state:=.done,pending:=some j.code}
def cellAt(μ:Ro)(b o:Nat):Option Value:=match μ b with|some (.cells c _ _)=>c[o]?|_=>none
def AW(f:FuncId)(xs:Array Value):Value:=if f<EC then .func (.func f) #[] xs else .func (.func (f-EC)) xs #[]
variable{xs:Array Value}
theorem rK{f:FuncId}(h:Nat.blt f EC=true):AW f xs=.func (.func f) #[] xs:=BK (by rwa[akH]at h)
theorem Lh{f:FuncId}(h:Nat.blt f EC=false):AW f xs=.func (.func (f-EC)) xs #[]:=IN (by rw[←akQ,akH]at h;omega)
theorem rL(f:FuncId)(xs:Array Value):∃g a b,AW f xs=.func (.func g) a b:=by
 unfold AW;split
 ·simp
 simp
theorem HE(f:FuncId)(xs:Array Value):(AW f xs).oneCell'=true:=by obtain⟨g,a,b,h⟩:=rL f xs;rw[h];rfl
inductive ai(P:Program)(μ:Ro):PV→Value→Prop
 |int {k:IntKind} {n:Int}:(Lit.int k n).wf=true→ai P μ (.int k n) (.int k n)
 |bool {b:Bool}:ai P μ (.bool b) (.bool b)
 |str {s:Bytes}:s.length≤maxLen→ai P μ (.str s) (.string ⟨s.toArray⟩)
 |agg {cs:List PV} {xs:Array Value}:cs.length=xs.size→(∀(i:Nat)p x,cs[i]?=some p→xs[i]?=some x→ai P μ p x)→(∀(i:Nat)(x:Value),xs[i]?=some x→x.oneCell'=true)→ai P μ (.agg cs) (.agg xs)
 |bu {cs:List PV} {xs:Array Value}:cs.length=xs.size→(∀(i:Nat)p x,cs[i]?=some p→xs[i]?=some x→ai P μ p x)→ai P μ (.bu cs) (.tuple xs)
 |qU:ai P μ .qU (.pointer none)
 |rp {cs:List PV} {b o:Nat} (X:Nat→Value):(∀(i:Nat)p,cs[i]?=some p→cellAt μ b (o+i)=some (X i))→(∀(i:Nat)p,cs[i]?=some p→ai P μ p (X i))→(∀i:Nat,i<cs.length→(X i).oneCell'=true)→ai P μ (.rp cs) (.pointer (some ⟨b,o,none⟩))
 |lk {sz:Nat}:ai P μ (.rs sz []) (.slice none 0 0)
 |G9 {sz cap:Nat} {a:Addr}:cap≤maxLen→ai P μ (.rs sz []) (.slice (some a) 0 cap)
 |rs {sz:Nat} {es:List PV} {b o cap:Nat} (X:Nat→Nat→Value):es.length≤cap→cap≤maxLen→(∀(i:Nat)e,es[i]?=some e→e.cells.length=sz)→(∀(i:Nat)e(j:Nat)p,es[i]?=some e→e.cells[j]?=some p→cellAt μ b (o+i*sz+j)=some (X i j))→(∀(i:Nat)e(j:Nat)p,es[i]?=some e→e.cells[j]?=some p→ai P μ p (X i j))→(∀(i:Nat)e(j:Nat)p,es[i]?=some e→e.cells[j]?=some p→(X i j).oneCell'=true)→ai P μ (.rs sz es) (.slice (some ⟨b,o,none⟩) es.length cap)
 |wJ:ai P μ .wJ (.map none)
 |rm {kt:TypeId} {ks vs:List PV} {b clock:Nat} {en:Array MapEntry} {kk:List Kd}:μ b=some (.map en clock)→en.size=ks.length→vs.length=ks.length→tg P kt=some kk→(∀(i:Nat)k,ks[i]?=some k→wy P kt kk k=true)→(∀(i:Nat)k e,ks[i]?=some k→en[i]?=some e→ai P μ k e.key)→(∀(i:Nat)v e,vs[i]?=some v→en[i]?=some e→ai P μ v e.val)→ai P μ (.rm kt ks vs) (.map (some b))
 |BR:ai P μ .BR .nilFunc
 |fn {f:FuncId} {cs:List PV} {xs:Array Value}:cs.length=xs.size→(∀(i:Nat)p x,cs[i]?=some p→xs[i]?=some x→ai P μ p x)→ai P μ (.fn f cs) (AW f xs)
 |We:ai P μ (.Y8 false) .nilIface
 |Zy {t:TypeId} {x:Value}:ai P μ (.Y8 true) (.iface t x)
 |bad {x:Value}:ai P μ .bad x
structure ze(P:Program)(μ:Ro)(g:Nat)(cs:List PV):Prop where
 rep:ai P μ (.rp cs) (.pointer (some ⟨g,0,none⟩))
 size:∃c T z,μ g=some (.cells c T z)∧c.size=cs.length
structure Dd where
 g:Option Nat
 cap:Nat
 len:Nat
 sz:Nat
 deriving Inhabited
structure aH extends Dd where
 row:Nat→Nat→Dd:=fun _ _=>default
 deriving Inhabited
abbrev DU(g:Option Nat)(cap len sz:Nat):aH:={g,cap,len,sz}
def Dd.up(p:Dd):aH:={toDd:=p}
inductive ah(P:Program)(μ:Ro)(φ:Nat→aH):V→Value→Prop
 |pv {p:PV} {x:Value}:ai P μ p x→ah P μ φ (.pv p) x
 |iK:ah P μ φ .iK (.slice none 0 0)
 |op {id off g:Nat}:(φ id).g=some g→ah P μ φ (.op id off) (.pointer (some ⟨g,off,none⟩))
 |oe {id i off g:Nat}:(φ id).g=some g→ah P μ φ (.oe id i off) (.pointer (some ⟨g,i*(φ id).sz+off,none⟩))
 |s9 {id:Nat}:(φ id).g=none→ah P μ φ (.os id) (.slice none 0 0)
 |os {id g:Nat}:(φ id).g=some g→ah P μ φ (.os id) (.slice (some ⟨g,0,none⟩) (φ id).len (φ id).cap)
 |rJ {id:Nat}:(φ id).g=none→ah P μ φ (.fX id 0 0) (.slice none 0 0)
 |fX {id lo len cap g:Nat} {a:Addr}:(φ id).g=some g→lo+len≤(φ id).len→(a=⟨g,lo*(φ id).sz,none⟩∨((φ id).cap=lo∧0<lo))→len≤cap→lo+cap≤(φ id).cap→ah P μ φ (.fX id lo len) (.slice (some a) len cap)
 |Jk {id i off:Nat}:((φ id).row i off).g=none→ah P μ φ (.wR id i off) (.slice none 0 0)
 |wR {id i off g:Nat}:((φ id).row i off).g=some g→ah P μ φ (.wR id i off) (.slice (some ⟨g,0,none⟩) ((φ id).row i off).len ((φ id).row i off).cap)
 |AM {id i off s j off2 g:Nat}:((φ id).row i off).g=some g→((φ id).row i off).sz=s→ah P μ φ (.AM id i off s j off2) (.pointer (some ⟨g,j*s+off2,none⟩))
 |om {id g:Nat}:(φ id).g=some g→ah P μ φ (.om id) (.map (some g))
 |yl {id g:Nat}:(φ id).g=some g→ah P μ φ (.yl id) (.func (.yield g) #[] #[])
 |it {id g:Nat}:(φ id).g=some g→ah P μ φ (.it id) (.pointer (some ⟨g,0,none⟩))
 |fn {f:FuncId} {cs:List V} {xs:Array Value}:cs.length=xs.size→(∀(i:Nat)p x,cs[i]?=some p→xs[i]?=some x→ah P μ φ p x)→ah P μ φ (.fn f cs) (AW f xs)
 |agg {cs:List V} {xs:Array Value}:cs.length=xs.size→(∀(i:Nat)p x,cs[i]?=some p→xs[i]?=some x→ah P μ φ p x)→(∀(i:Nat)(x:Value),xs[i]?=some x→x.oneCell'=true)→ah P μ φ (.agg cs) (.agg xs)
 |bu {cs:List V} {xs:Array Value}:cs.length=xs.size→(∀(i:Nat)p x,cs[i]?=some p→xs[i]?=some x→ah P μ φ p x)→ah P μ φ (.bu cs) (.tuple xs)
 |top {x:Value}:ah P μ φ .top x
def aN(P:Program)(μ:Ro)(φ:Nat→aH)(w:World)(id sz:Nat)(et:TypeId)(es:List PV):Prop:=
 (φ id).len=es.length∧(φ id).sz=sz∧sz=aV P et∧0<sz∧(∀(i:Nat)e,es[i]?=some e→e.cells.length=sz)∧(φ id).cap≤maxLen∧
 match(φ id).g with
 |none=>es=[]∧(φ id).cap=0
 |some g=>∃(c:Array Value)(T:TypeId),w.heap[g]?=some (.cells c T (0,0))∧(φ id).cap*sz≤c.size∧es.length≤(φ id).cap∧(∀(i:Nat)e(j:Nat)p x,es[i]?=some e→e.cells[j]?=some p→c[i*sz+j]?=some x→ai P μ p x)∧(∀(i:Nat)(x:Value),i<es.length*sz→c[i]?=some x→x.oneCell'=true)
def bR.rowAt:bR→Nat→Nat→Bool
 |.nest _ _ es,i,off=>match es[i]? with
  |some e=>match e.cells[off]? with
   |some p=>p.isRow
   |none=>false
  |none=>false
 |.fv _ _ es,i,0=>match es[i]? with
  |some x=>x.2.isRow
  |none=>false
 |_,_,_=>false
def eY(P:Program)(μ:Ro)(R:Dd)(w:World)(s:Nat)(rs:List PV)(x:Value):Prop:=(∃et,aN P μ (fun _=>R.up) w 0 s et rs)∧ah P μ (fun _=>R.up) (.os 0) x
def eB(P:Program)(μ:Ro)(R:Dd)(w:World)(p:PV)(x:Value):Prop:=match p with
 |.qV s rs=>eY P μ R w s rs x
 |p=>ai P μ p x
def bd(P:Program)(μ:Ro)(φ:Nat→aH)(w:World)(id sz:Nat)(et:TypeId)(es:List PV):Prop:=
 (φ id).len=es.length∧(φ id).sz=sz∧sz=aV P et∧0<sz∧(∀(i:Nat)e,es[i]?=some e→e.cells.length=sz)∧(φ id).cap≤maxLen∧
 match(φ id).g with
 |none=>es=[]∧(φ id).cap=0
 |some g=>∃(c:Array Value)(T:TypeId),w.heap[g]?=some (.cells c T (0,0))∧(φ id).cap*sz≤c.size∧es.length≤(φ id).cap∧(∀(i:Nat)e(j:Nat)p x,es[i]?=some e→e.cells[j]?=some p→c[i*sz+j]?=some x→eB P μ ((φ id).row i j) w p x)∧(∀(i:Nat)(x:Value),i<es.length*sz→c[i]?=some x→x.oneCell'=true)
def mB(en:Array MapEntry)(clock:Nat):Prop:=∀(i:Nat)e,en[i]?=some e→e.born<clock∧∀(j:Nat)e',en[j]?=some e'→e'.born=e.born→j=i
def lO(en:Array MapEntry)(seen:Array Nat):List MapEntry:=en.toList.filter fun e=> !seen.contains e.born
def hU(P:Program)(μ:Ro)(φ:Nat→aH)(w:World)(id:Nat):bR→Prop
 |.box cs=>∃(g:Nat)(c:Array Value)(T:TypeId),(φ id).g=some g∧w.heap[g]?=some (.cells c T (0,0))∧c.size=cs.length∧(∀(i:Nat)v x,cs[i]?=some v→c[i]?=some x→ah P μ φ v x)∧(∀(i:Nat)(x:Value),c[i]?=some x→x.oneCell'=true)∧(φ id).len=cs.length
 |.arr sz et es=>aN P μ φ w id sz et es
 |.ri sz et es=>aN P μ φ w id sz et es∧∀g,(φ id).g=some g→(μ g).isSome
 |.map kt es=>∃(g:Nat)(en:Array MapEntry)(clock:Nat)(kk:List Kd),(φ id).g=some g∧w.heap[g]?=some (.map en clock)∧en.size=es.length∧tg P kt=some kk∧(∀(i:Nat)k v,es[i]?=some (k,v)→wy P kt kk k=true)∧mB en clock∧(∀(i:Nat)k v e,es[i]?=some (k,v)→en[i]?=some e→ai P μ k e.key∧ai P μ v e.val)
 |.nest sz et es=>bd P μ φ w id sz et es
 |.fv kt e0 es=>∃(g:Nat)(en:Array MapEntry)(clock:Nat)(kk:List Kd),(φ id).g=some g∧w.heap[g]?=some (.map en clock)∧en.size=es.length∧tg P kt=some kk∧(∀(i:Nat)k v,es[i]?=some (k,v)→wy P kt kk k=true)∧mB en clock∧(∀(i:Nat)k v e,es[i]?=some (k,v)→en[i]?=some e→ai P μ k e.key∧(match v with
  |.qV s rs=>aN P μ (fun _=>((φ id).row i 0).up) w 0 s e0 rs∧ah P μ (fun _=>((φ id).row i 0).up) (.os 0) e.val
  |v=>ai P μ v e.val))
 |.iter t es cur=>∃(g mg:Nat)(en:Array MapEntry)(clock:Nat)(seen:Array Nat),(φ id).g=some g∧w.heap[g]?=some (.mapIter (some mg) clock seen clock)∧μ mg=some (.map en clock)∧mB en clock∧(lO en seen).length=es.length∧(∀(i:Nat)k v e,es[i]?=some (k,v)→(lO en seen)[i]?=some e→ai P μ k e.key∧ai P μ v e.val)∧∀k v,cur=some (k,v)→∃(i:Nat)(e:MapEntry),en[i]?=some e∧seen.back? =some e.born∧ai P μ k e.key∧ai P μ v e.val
 |.loop st=>∃(g:Nat)(rc:Loop),(φ id).g=some g∧w.heap[g]?=some (.loop (st.obj rc))
def bR.j7:bR→Bool
 |.ri .. =>false
 |_=>true
structure bI where
 w:World
 mu:Ro
 sv:Nat→Value
 dJ:Ro:=fun _=>none
 mY:Ro:=fun _=>none
 rc:Nat→Option (Nat×Loop):=fun _=>none
abbrev bI.heap(B:bI):Array Obj:=B.w.heap
def bR.ev(b:bR)(p:aH)(g:Nat):Prop:=p.g=some g∨∃i off,b.rowAt i off=true∧(p.row i off).g=some g
def bR.apart(b:bR)(p:aH):Prop:=∀i off g,b.rowAt i off=true→(p.row i off).g=some g→p.g≠some g∧∀i' tC,b.rowAt i' tC=true→(p.row i' tC).g=some g→i'=i∧tC=off
structure az(P:Program)(G:Nat→Option (List PV))(w0:bI)(μ:Ro)(φ:Nat→aH)(m:Mem)(w:World):Prop where
 below:lA w0.heap.size w0.w w
 ro:∀b o,μ b=some o→w.heap[b]?=some o
 aM:∀g cs,G g=some cs→ze P μ g cs
 dH:∀id b,m id=some b→hU P μ φ w id b
 own:∀id b g,m id=some b→b.ev (φ id) g→w0.heap.size≤g∧(b.j7=true→μ g=none)
 inj:∀VH id2 b1 b2 g,m VH=some b1→m id2=some b2→b1.ev (φ VH) g→b2.ev (φ id2) g→VH=id2
 apart:∀id b,m id=some b→b.apart (φ id)
 fY:∀j cs id,m j=some (.box cs)→cD id cs=true→(m id).isSome=true
 base:∀b o,μ b=some o→b<w0.heap.size→w0.mu b=some o
 dJ:∀b o,w0.dJ b=some o→μ b=some o
 Dc:∀id st,m id=some (.loop st)→∃g rc,(φ id).g=some g∧w0.rc id=some (g,rc)∧w.heap[g]?=some (.loop (st.obj rc))
def ax(nt:Nat)(w0:bI)(a:Act):Nat→Value:=fun t=>if t<nt then a.tmps.getD t undef else w0.sv t
theorem rI{nt:Nat}{w0:bI}{a:Act}{t:Nat}(h:t<nt):ax nt w0 a t=a.tmps.getD t undef:=BK h
def Marks(B:Nat)(mY μ:Ro)(ds:List Deferred):Prop:=∃Ds:List Nat,ds=Ds.map (fun D=>{target:=.collected D,args:= #[]})∧Ds.Nodup∧∀D∈Ds,B≤D∧mY D=none∧μ D=some (.deferred (some []))
theorem Marks.nil(B:Nat)(mY μ:Ro):Marks B mY μ []:=⟨[],rfl,.nil,by simp⟩
theorem Marks.mono{B:Nat}{mY μ μ':Ro}(h:∀b o,μ b=some o→μ' b=some o){ds:List Deferred}:Marks B mY μ ds→Marks B mY μ' ds
 |⟨Ds,e,hn,hD⟩=>⟨Ds,e,hn,fun D hd=>⟨(hD D hd).1,(hD D hd).2.1,h _ _ (hD D hd).2.2⟩⟩
structure Rel(P:Program)(G:Nat→Option (List PV))(nt:Nat)(w0:bI)(μ:Ro)(φ:Nat→aH)(f:Fr)(m:Mem)(a:Act)(w:World):Prop extends az P G w0 μ φ m w where
 size:a.tmps.size=nt
 defers:Marks w0.heap.size w0.mY μ a.defers
 mY:∀b o,w0.mY b=some o→w0.dJ b=some o
 fr:∀t,ah P μ φ (f t) (ax nt w0 a t)
 live:∀t id,(f t).has id=true→(m id).isSome=true
section
variable {P:Program} {μ μ':Ro} {φ φ':Nat→aH}
variable{x:Value}
theorem De(h:∀b o,μ b=some o→μ' b=some o){b o:Nat}(hx:cellAt μ b o=some x):cellAt μ' b o=some x:=by grind [cellAt]
variable{p:PV}
theorem ai.mono(h:∀b o,μ b=some o→μ' b=some o)(hp:ai P μ p x):ai P μ' p x:=by
 induction hp with
 |int h=>exact .int h
 |bool=>exact .bool
 |str h=>exact .str h
 |agg h1 _ h3 ih=>exact .agg h1 ih h3
 |bu h1 _ ih=>exact .bu h1 ih
 |qU=>exact .qU
 |rp X h1 _ h3 ih=>exact .rp X (fun i p hi=>De h (h1 i p hi)) ih h3
 |lk=>exact .lk
 |G9 h=>exact .G9 h
 |rs X h1 h2 h3 h4 _ h6 ih=>exact .rs X h1 h2 h3 (fun i e j p hi hj=>De h (h4 i e j p hi hj)) ih h6
 |wJ=>exact .wJ
 |rm h1 h2 h3 h4 h5 _ _ ih1 ih2=>exact .rm (h _ _ h1) h2 h3 h4 h5 ih1 ih2
 |BR=>exact .BR
 |fn h1 _ ih=>exact .fn h1 ih
 |We=>exact .We
 |Zy=>exact .Zy
 |bad=>exact .bad
theorem ze.mono(h:∀b o,μ b=some o→μ' b=some o){g:Nat}{cs:List PV}(hv:ze P μ g cs):ze P μ' g cs:=⟨hv.rep.mono h,let⟨c,T,z,h1,h2⟩:=hv.size;⟨c,T,z,h _ _ h1,h2⟩⟩
theorem bU{id:Nat}{v:V}:∀{cs:List V},v∈cs→v.has id=true→cD id cs=true
 |c::r,hm,hv=>by
  rcases ah4.1 hm with rfl|hm
  ·simp[cD,hv]
  ·simp[cD,bU hm hv]
theorem cW{id:Nat}:∀{cs:List V},cD id cs=true↔∃v∈cs,v.has id=true
 |[]=>by simp[cD]
 |c::r=>by simp[cD,cW (cs:=r)]
theorem yF{id:Nat}{v:V}:∀{cs:List V},v∈cs→v.wS id=true→AN id cs=true
 |c::r,hm,hv=>by
  rcases ah4.1 hm with rfl|hm
  ·simp[AN,hv]
  ·simp[AN,yF hm hv]
theorem ah.mono(h:∀b o,μ b=some o→μ' b=some o){v:V}{x:Value}(hv:ah P μ φ v x)(hφ:∀id,v.has id=true→φ' id=φ id):ah P μ' φ' v x:=by
 induction hv with
 |pv hp=>exact .pv (hp.mono h)
 |iK=>exact .iK
 |op hg=>exact .op (by simp_all[V.has])
 | @oe id i off g hg=>have e:=hφ id (by simp[V.has]);have:=ah.oe (P:=P) (μ:=μ') (φ:=φ') (id:=id) (i:=i) (off:=off) (g:=g) (by rw[e];omega);simp_all
 | @s9 id hg=>exact .s9 (by rw[hφ id (by simp[V.has])];omega)
 | @os id g hg=>have e:=hφ id (by simp[V.has]);have:=ah.os (P:=P) (μ:=μ') (φ:=φ') (id:=id) (g:=g) (by rw[e];omega);simp_all
 | @rJ id hg=>exact .rJ (by rw[hφ id (by simp[V.has])];omega)
 | @fX id lo len cap g a hg hl ha hc hc'=>have e:=hφ id (by simp[V.has]);exact ah.fX (P:=P) (μ:=μ') (φ:=φ') (id:=id) (lo:=lo) (len:=len) (cap:=cap) (g:=g) (a:=a) (by rw[e];omega) (by rw[e];omega) (by rw[e];omega) hc (by rw[e];omega)
 | @Jk id i off hg=>exact .Jk (by rw[hφ id (by simp[V.has])];omega)
 | @wR id i off g hg=>have e:=hφ id (by simp[V.has]);have:=ah.wR (P:=P) (μ:=μ') (φ:=φ') (id:=id) (i:=i) (off:=off) (g:=g) (by rw[e];omega);simp_all
 | @AM id i off s j off2 g hg hs=>have e:=hφ id (by simp[V.has]);exact .AM (by rw[e];omega) (by rw[e];omega)
 | @om id g hg=>exact .om (by rw[hφ id (by simp[V.has])];omega)
 | @yl id g hg=>exact .yl (by rw[hφ id (by simp[V.has])];omega)
 | @it id g hg=>exact .it (by rw[hφ id (by simp[V.has])];omega)
 |fn h1 _ ih=>exact .fn h1 (fun i p x hi hx=>ih i p x hi hx (fun id av=>hφ id (by simp only[V.has];exact bU (ah3 hi) av)))
 |agg h1 _ h3 ih=>exact .agg h1 (fun i p x hi hx=>ih i p x hi hx (fun id av=>hφ id (by simp only[V.has];exact bU (ah3 hi) av))) h3
 |bu h1 _ ih=>exact .bu h1 (fun i p x hi hx=>ih i p x hi hx (fun id av=>hφ id (by simp only[V.has];exact bU (ah3 hi) av)))
 |top=>exact .top
variable{v:V}
theorem ah.aa2(h:∀b o,μ b=some o→μ' b=some o)(hv:ah P μ φ v x)(hφ:∀id,v.has id=true→(φ' id).toDd=(φ id).toDd∧(v.wS id=true→φ' id=φ id)):ah P μ' φ' v x:=by
 induction hv with
 |pv hp=>exact .pv (hp.mono h)
 |iK=>exact .iK
 |op hg=>exact .op (by simp_all[V.has])
 | @oe id i off g hg=>have e:=(hφ id (by simp[V.has])).1;have:=ah.oe (P:=P) (μ:=μ') (φ:=φ') (id:=id) (i:=i) (off:=off) (g:=g) (by rw[e];omega);simp_all
 | @s9 id hg=>exact .s9 (by rw[(hφ id (by simp[V.has])).1];omega)
 | @os id g hg=>have e:=(hφ id (by simp[V.has])).1;have:=ah.os (P:=P) (μ:=μ') (φ:=φ') (id:=id) (g:=g) (by rw[e];omega);simp_all
 | @rJ id hg=>exact .rJ (by rw[(hφ id (by simp[V.has])).1];omega)
 | @fX id lo len cap g a hg hl ha hc hc'=>have e:=(hφ id (by simp[V.has])).1;exact ah.fX (P:=P) (μ:=μ') (φ:=φ') (id:=id) (lo:=lo) (len:=len) (cap:=cap) (g:=g) (a:=a) (by rw[e];omega) (by rw[e];omega) (by rw[e];omega) hc (by rw[e];omega)
 | @Jk id i off hg=>exact .Jk (by rw[(hφ id (by simp[V.has])).2 (by simp[V.wS])];omega)
 | @wR id i off g hg=>have e:=(hφ id (by simp[V.has])).2 (by simp[V.wS]);have:=ah.wR (P:=P) (μ:=μ') (φ:=φ') (id:=id) (i:=i) (off:=off) (g:=g) (by rw[e];omega);simp_all
 | @AM id i off s j off2 g hg hs=>have e:=(hφ id (by simp[V.has])).2 (by simp[V.wS]);exact .AM (by rw[e];omega) (by rw[e];omega)
 | @om id g hg=>exact .om (by rw[(hφ id (by simp[V.has])).1];omega)
 | @yl id g hg=>exact .yl (by rw[(hφ id (by simp[V.has])).1];omega)
 | @it id g hg=>exact .it (by rw[(hφ id (by simp[V.has])).1];omega)
 |fn h1 _ ih=>exact .fn h1 (fun i p x hi hx=>ih i p x hi hx (fun id av=>⟨(hφ id (by simp only[V.has];exact bU (ah3 hi) av)).1,fun h2=>(hφ id (by simp only[V.has];exact bU (ah3 hi) av)).2 (by simp only[V.wS];exact yF (ah3 hi) h2)⟩))
 |agg h1 _ h3 ih=>exact .agg h1 (fun i p x hi hx=>ih i p x hi hx (fun id av=>⟨(hφ id (by simp only[V.has];exact bU (ah3 hi) av)).1,fun h2=>(hφ id (by simp only[V.has];exact bU (ah3 hi) av)).2 (by simp only[V.wS];exact yF (ah3 hi) h2)⟩)) h3
 |bu h1 _ ih=>exact .bu h1 (fun i p x hi hx=>ih i p x hi hx (fun id av=>⟨(hφ id (by simp only[V.has];exact bU (ah3 hi) av)).1,fun h2=>(hφ id (by simp only[V.has];exact bU (ah3 hi) av)).2 (by simp only[V.wS];exact yF (ah3 hi) h2)⟩))
 |top=>exact .top
theorem ah.zf(h:∀b o,μ b=some o→μ' b=some o)(hv:ah P μ φ v x):ah P μ' φ v x:=hv.mono h fun _ _=>rfl
theorem ah.kill(id:Nat)(hv:ah P μ φ v x):ah P μ φ (th id v) x:=by
 unfold th;cases v.has id<;>simp
 ·omega
 ·exact .top
theorem ah.zg(id:Nat)(hv:ah P μ φ v x):ah P μ φ (oE id v) x:=by
 unfold oE;cases v.wS id<;>simp
 ·omega
 ·exact .top
theorem yG{id j:Nat}(h:(oE id v).has j=true):v.has j=true∧(oE id v).wS id=false:=by grind [oE,id,V.has]
theorem eB.pure{R:Dd}{w:World}(h:ai P μ p x):eB P μ R w p x:=by
 unfold eB;split
 ·cases h
 omega
theorem eB.Sl{R:Dd}{w:World}(h:eB P μ R w p x)(hp:p.isRow=false):ai P μ p x:=by
 unfold eB at h;split at h
 ·cases hp
 omega
theorem ai.Ei(h:ai P μ p x):p.isRow=false:=by cases h<;>rfl
theorem w8{id j:Nat}(h:(th id v).has j=true):v.has j=true∧j≠id:=by grind [th,id,V.has]
end
section
variable {P:Program} {G:Nat→Option (List PV)} {w0:bI} {μ:Ro} {φ:Nat→aH} {f:Fr} {m:Mem} {w:World}
@[simp] theorem ag4(p:PV)(id:Nat):(V.pv p).has id=false:=by simp[V.has]
@[simp] theorem ag0(id:Nat):V.top.has id=false:=by simp[V.has]
@[simp] theorem adL(id:Nat):V.iK.has id=false:=by simp[V.has]
theorem Sn(cs:List PV)(id:Nat):cD id (cs.map .pv)=false:=by
 induction cs with
 |nil=>rfl
 |cons c r ih=>simp[cD,ih]
theorem nf(k:IntKind)(n:Int):(Lit.int k n).wf=true↔k.min≤n∧n≤k.max:=by simp[Lit.wf]
theorem wf_wrap(k:IntKind)(n:Int):(Lit.int k (k.wrap n)).wf=true:=by rw[nf];cases k<;>simp only[IntKind.wrap,IntKind.min,IntKind.max,IntKind.signed,IntKind.bits]<;>simp<;>(try split)<;>omega
theorem ai.one{p:PV}{x:Value}(h:ai P μ p x)(h1:∀cs,p≠.agg cs)(h2:∀cs,p≠.bu cs)(h3:p≠.bad):x.oneCell'=true:=by cases h<;>first|rfl|exact HE _ _|exact absurd rfl (h1 _)|exact absurd rfl (h2 _)|exact absurd rfl h3
theorem EU(c:Value):ah P μ φ (BS c) c:=by
 unfold BS;split
 ·split
  ·exact .pv (.int (by assumption))
  ·exact .top
 ·exact .pv .bool
 ·rename_i s;split
  ·exact .pv (.str (by assumption))
  ·exact .top
 ·exact .pv .qU
 ·exact .iK
 ·exact .pv .wJ
 ·exact .pv .BR
 ·exact .pv .We
 ·exact .top
theorem EV(c:Value)(id:Nat):(BS c).has id=false:=by unfold BS;split<;>(try split)<;>simp
theorem HF(c:Value)(id:Nat):(Hw c).has id=false:=by
 unfold Hw;split
 ·rename_i cs;split
  ·simp only[V.has];rw[Bool.eq_false_iff];intro h;obtain⟨v,hv,hh⟩:=cW.1 h;obtain⟨x,_,rfl⟩:=ajJ.1 hv;rw[EV]at hh;cases hh
  ·simp
 ·exact EV _ _
theorem uu(c:Value):ah P μ φ (Hw c) c:=by
 unfold Hw;split
 ·rename_i cs;split
  ·rename_i hc;refine .agg (by simp) (fun i p x hi hx=>?_) (fun i x hx=>?_)
   ·simp only[IT,ajL,hx,ah5,AT]at hi;subst hi;exact EU x
   ·rw[aki]at hc;have:=hc x (by rw[←ajL]at hx;exact ah3 hx);cases x<;>first|rfl|(simp at this)
  ·exact .top
 ·exact EU _
end
section
variable {R:Type} {E:Env} {w0:bI} {μ:Ro} {φ:Nat→aH} {f:Fr} {m:Mem} {a:Act} {w:World}
theorem an(h:Rel E.P E.aM E.fn.ntmps w0 μ φ f m a w)(x:Operand):ah E.P μ φ (bL E f x) (a.eval x)∧∀id,(bL E f x).has id=true→(m id).isSome=true:=by
 cases x with
 |tmp t=>
  simp only[bL];cases e:Nat.blt t E.fn.ntmps with
  |true=>
   have cd:t<E.fn.ntmps:=by rwa[akH]at e
   have:=h.fr t;rw[rI cd]at this;exact⟨this,h.live t⟩
  |false=>exact⟨.top,fun id av=>by cases av⟩
 |const c=>exact⟨uu c,fun id av=>by simp only[bL]at av;rw[HF]at av;cases av⟩
 |global g=>
  simp only[bL];cases hg:E.aM g with
  |none=>exact⟨.top,by simp⟩
  |some cs=>exact⟨.pv (h.aM g cs hg).rep,by simp⟩
 |func g=>
  simp only[bL];cases e:Nat.blt g EC with
  |true=>refine⟨?_,by simp[V.has,cD]⟩;have:=ah.fn (P:=E.P) (μ:=μ) (φ:=φ) (f:=g) (cs:=[]) (xs:= #[]) (by simp) (by simp);rw[rK e]at this;exact this
  |false=>exact⟨.top,by simp⟩
variable{p:PV}
theorem pe{sz j:Nat}{q:PV}(h:(aJ sz p)[j]?=some q):j<sz∧q=cell p j:=by
 unfold aJ at h;have key:∀(n o j:Nat),(ek p o n)[j]?=some q→j<n∧q=cell p (o+j):=by
  intro n;induction n with
  |zero=>intro o j hj;simp[ek]at hj
  |succ n ih=>
   intro o j hj;cases j with
   |zero=>simp[ek]at hj;exact⟨by omega,by simp[hj]⟩
   |succ j=>simp only[ek,alo]at hj;obtain⟨h1,h2⟩:=ih (o+1) j hj;exact⟨by omega,by rw[h2];congr 1;omega⟩
 have:=key sz 0 j h;simpa using this
theorem aZ(sz:Nat)(p:PV):(aJ sz p).length=sz:=by
 unfold aJ;have:∀n o,(ek p o n).length=n:=by
  intro n;induction n with
  |zero=>intro o;rfl
  |succ n ih=>intro o;simp[ek,ih]
 exact this _ _
theorem ee{sz:Nat}(h:p.cells.length=sz):aJ sz p=p.cells:=by
 apply ajY;intro j;by_cases hj:j<sz
 ·have h1:j<(aJ sz p).length:=by rw[aZ];exact hj
  have h2:=pe (AI h1);rw[AI h1,h2.2,cell,alD,AI (by omega)];rfl
 ·rw[ajr (by rw[aZ];omega),ajr (by omega)]
theorem ai.zh{P:Program}{μ:Ro}{n:Nat}{cs:List PV}{x:Value}(h:ai P μ (.agg cs) x)(hn:cs.length=n):ai P μ (.agg (aJ n (.agg cs))) x:=by rw[ee (p:=.agg cs) (by simpa[PV.cells]using hn)];exact h
variable{t:TypeId}{k:PV→Option R}
theorem mh{r:R}(h:gQ E t p k=some r):∃q,(∀(R':Type)(k':PV→Option R'),gQ E t p k'=k' q)∧k q=some r∧(∀(P:Program)(μ:Ro)x,ai P μ p x→ai P μ q x)∧q≠.bad∧(∀cs,q≠.bu cs)∧(aF E.P t=false→∀cs,q≠.agg cs):=by
 unfold gQ at h;split at h
 ·rename_i q hu;obtain⟨n,hn,hk⟩:=BY.1 h;have hp:p=.int q n:=by cases p<;>simp[asInt]at hn;obtain⟨rfl,rfl⟩:=hn;rfl
  exact⟨.int q n,fun R' k'=>by simp[gQ,hu,hn],hk,fun P μ x hx=>hp▸hx,by simp,by simp,by simp⟩
 ·rename_i hu;obtain⟨n,hn,hk⟩:=BY.1 h;have hp:p=.bool n:=by cases p<;>simp[asBool]at hn;subst hn;rfl
  exact⟨.bool n,fun R' k'=>by simp[gQ,hu,hn],hk,fun P μ x hx=>hp▸hx,by simp,by simp,by simp⟩
 ·rename_i hu;obtain⟨n,hn,hk⟩:=BY.1 h;have hp:p=.str n:=by cases p<;>simp[dg]at hn;subst hn;rfl
  exact⟨.str n,fun R' k'=>by simp[gQ,hu,hn],hk,fun P μ x hx=>hp▸hx,by simp,by simp,by simp⟩
 ·rename_i e hu;obtain⟨es,hn,hk⟩:=BY.1 h;refine⟨.rs (aV E.P e) es,fun R' k'=>by simp[gQ,hu,hn],hk,fun P μ x hx=>?_,by simp,by simp,by simp⟩;cases p<;>simp[aP]at hn;split at hn
  ·rename_i hs;simp only[AT]at hn;rw[←hs,←hn];exact hx
  ·split at hn
   ·simp only[AT]at hn;subst hn;cases hx with
    |lk=>exact .lk
    |G9 h=>exact .G9 h
    |rs X h1 h2 _ _ _ _=>exact .G9 h2
   ·cases hn
 ·rename_i fs hu;obtain⟨u,hn,hk⟩:=BY.1 h;refine⟨_,fun R' k'=>by simp[gQ,hu,hn],hk,fun P μ x hx=>?_,by simp,by simp,by simp[aF,hu]⟩;cases p<;>simp[asAgg]at hn;exact hx.zh hn
 ·rename_i n e hu;obtain⟨u,hn,hk⟩:=BY.1 h;refine⟨_,fun R' k'=>by simp[gQ,hu,hn],hk,fun P μ x hx=>?_,by simp,by simp,by simp[aF,hu]⟩;cases p<;>simp[asAgg]at hn;exact hx.zh hn
 ·rename_i e hu;split at h
  ·exact⟨.qU,fun R' k'=>by simp[gQ,hu],h,fun P μ x hx=>hx,by simp,by simp,by simp⟩
  ·rename_i cs;exact⟨.rp cs,fun R' k'=>by simp[gQ,hu],h,fun P μ x hx=>hx,by simp,by simp,by simp⟩
  ·cases h
 ·rename_i kt et hu;unfold dZ at h;split at h
  ·exact⟨.wJ,fun R' k'=>by simp[gQ,hu,dZ],h,fun P μ x hx=>hx,by simp,by simp,by simp⟩
  ·rename_i wL ks vs;split at h
   ·rename_i he;subst he;exact⟨.rm _ ks vs,fun R' k'=>by simp[gQ,hu,dZ],h,fun P μ x hx=>hx,by simp,by simp,by simp⟩
   ·cases h
  ·cases h
 ·rename_i ps rs vr hu;split at h
  ·exact⟨.BR,fun R' k'=>by simp[gQ,hu],h,fun P μ x hx=>hx,by simp,by simp,by simp⟩
  ·rename_i g cs;exact⟨.fn g cs,fun R' k'=>by simp[gQ,hu],h,fun P μ x hx=>hx,by simp,by simp,by simp⟩
  ·cases h
 ·rename_i ms hu;obtain⟨n,hn,hk⟩:=BY.1 h;have hp:p=.Y8 n:=by cases p<;>simp[Se]at hn;subst hn;rfl
  exact⟨.Y8 n,fun R' k'=>by simp[gQ,hu,hn],hk,fun P μ x hx=>hp▸hx,by simp,by simp,by simp⟩
 ·cases h
theorem Li{v:V}{k:V→Option R}{r:R}(h:AO E t v k=some r):∃u,(∀(R':Type)(k':V→Option R'),AO E t v k'=k' u)∧k u=some r∧(∀(P:Program)(μ:Ro)(φ:Nat→aH)x,ah P μ φ v x→ah P μ φ u x)∧(∀id,u.has id=true→v.has id=true):=by
 unfold AO at h;split at h
 ·obtain⟨q,h1,h2,h3,_⟩:=mh h;exact⟨.pv q,fun R' k'=>by simp[AO,h1],h2,fun P μ φ x hx=>by cases hx with|pv hp=>exact .pv (h3 _ _ _ hp),by simp⟩
 ·cases h
 ·rename_i h1 h2;split at h
  ·rename_i hu;refine⟨v,fun R' k'=>?_,h,fun _ _ _ _ hx=>hx,fun _ h=>h⟩;unfold AO;cases v<;>first|(simp only[hu,aaV];done)|exact absurd rfl (h1 _)|exact absurd rfl h2
  ·cases h
theorem w9{r:R}(h:gQ E t p k=some r):∃d,E.P.underlying t=some d:=by
 unfold gQ at h;cases hq:E.P.underlying t with
 |none=>simp[hq]at h
 |some d=>exact⟨d,rfl⟩
theorem HG{v:V}{k:V→Option R}{r:R}(h:AO E t v k=some r):∃d,E.P.underlying t=some d:=by
 unfold AO at h;split at h
 ·exact w9 h
 ·cases h
 ·split at h
  ·rename_i hu;exact ajR.1 hu
  ·cases h
end
section
variable {P:Program} {G:Nat→Option (List PV)} {w0:bI} {μ:Ro} {φ:Nat→aH} {m:Mem} {w:World}
variable{t:TypeId}{d:TypeDesc}
theorem Df(h:P.underlying t=some d):(P.info? t).map (·.size)=some (aV P t):=by grind [Program.underlying,aV]
theorem EW(h:aF P t=true):∃d,P.underlying t=some d∧d.isRow=true:=by unfold aF at h;grind
theorem B7(hu:P.underlying t=some d):(isAgg t).run P w=.ok (aF P t) w:=by unfold isAgg;simp only[Sem.run_bind,run_underlying hu,Result.andThen_ok,aF,hu];cases d<;>rfl
theorem Dg(hu:P.underlying t=some d):(sizeOf t).run P w=.ok (aV P t) w:=by
 have:=Df hu;cases hi:P.info? t with
 |none=>simp[hi]at this
 |some i=>simp[sizeOf,typeInfo,hi,aV]
variable{o:Nat}
theorem iM{b:Nat}{y:Value}(hu:P.underlying t=some d)(ha:aF P t=false)(hc:w.cell? ⟨b,o,none⟩=some y):(Instr.loadAt t (.pointer (some ⟨b,o,none⟩))).run P w=.ok y w:=by simp only[Instr.loadAt,Instr.sureAddr,loadVar,Sem.run_bind,Sem.run_pure,Result.andThen_ok,B7 hu,ha];simp[load,Sem.run,hc]
theorem ng{b:Nat}{cs:List Value}(ha:aF P t=true)(hc:w.rangeAt b o cs)(hl:cs.length=aV P t):(Instr.loadAt t (.pointer (some ⟨b,o,none⟩))).run P w=.ok (.agg cs.toArray) w:=by grind [EW,run_loadAt_mid,Df]
theorem az.cellAt(hM:az P G w0 μ φ m w){b o:Nat}{x:Value}(h:cellAt μ b o=some x):w.cell? ⟨b,o,none⟩=some x:=by
 unfold Go.Ab.cellAt at h;split at h
 ·rename_i c t fz hb;simp[World.cell?,hM.ro _ _ hb,h]
 ·cases h
theorem dy{g:Nat}{c:Array Value}{T:TypeId}{fz:Nat×Nat}(h:w.heap[g]?=some (.cells c T fz)):w.cell? ⟨g,o,none⟩=c[o]?:=by simp[World.cell?,h]
theorem eZ{T:Type}{l:List T}{n i:Nat}{x:T}(h:(l.take n)[i]?=some x):i<n∧l[i]?=some x:=by grind
theorem pf{T:Type}{l:List T}{n i:Nat}{x:T}(h:((l.drop o).take n)[i]?=some x):i<n∧l[o+i]?=some x:=by grind
theorem ai.abO{cs:List PV}{b n:Nat}{X:Nat→Value}(hM:az P G w0 μ φ m w)(h1:∀(i:Nat)p,cs[i]?=some p→Go.Ab.cellAt μ b (o+i)=some (X i))(h2:∀(i:Nat)p,cs[i]?=some p→ai P μ p (X i))(h3:∀i:Nat,i<cs.length→(X i).oneCell'=true)(hn:n≤cs.length):w.rangeAt b o ((List.range n).map X)∧ai P μ (.agg (cs.take n)) (.agg ((List.range n).map X).toArray):=by
 have hX:∀i x,((List.range n).map X)[i]?=some x→i<n∧x=X i:=by grind
 refine⟨fun j v hv=>?_,.agg (by simp;omega) (fun i p x hi hx=>?_) (fun i x hx=>?_)⟩
 ·obtain⟨hj,rfl⟩:=hX j v hv;exact hM.cellAt (h1 j _ (AI (by omega)))
 ·grind
 grind
end
section
variable {R:Type} {E:Env}
def Quiet(v:V)(m:Mem):Prop:=∀id,v.has id=true→(m id).isSome=true
theorem iE{g:V→Option PV}{cs:List V}{ps:List PV}(h:qW g cs=some ps):ps.length=cs.length∧∀(i:Nat)p,ps[i]?=some p→∃v,cs[i]?=some v∧g v=some p:=by
 induction cs generalizing ps with
 |nil=>simp[qW]at h;subst h;simp
 |cons c r ih=>simp only[qW]at h;obtain⟨p,hp,h⟩:=BY.1 h;obtain⟨ps',pX,h⟩:=BY.1 h;grind
variable{s off:Nat}{t:TypeId}{e:PV}
theorem HH{k:V→Option R}{r:R}(h:tA E s t e off k=some r):∃v,(∀(R':Type)(k':V→Option R'),tA E s t e off k'=k' v)∧k v=some r∧(∀id,v.has id=false)∧∀(μ:Ro)(φ:Nat→aH)(w:World)(g o:Nat)(c:Array Value)(T:TypeId),w.heap[g]?=some (.cells c T (0,0))→e.cells.length=s→(∀(j:Nat)p x,e.cells[j]?=some p→c[o+j]?=some x→ai E.P μ p x)→(∀(i:Nat)(x:Value),i<o+s→c[i]?=some x→x.oneCell'=true)→o+s≤c.size→∃y,(Instr.loadAt t (.pointer (some ⟨g,o+off,none⟩))).run E.P w=.ok y w∧ah E.P μ φ v y:=by
 unfold tA at h;split at h
 ·rename_i ha;split at h
  ·rename_i hb;refine⟨_,fun R' k'=>by simp[tA,ha,hb],h,by simp,fun μ φ w g o c T hg hs hc h1 hl=>?_⟩;have hR:w.rangeAt g (o+off) ((c.toList.drop (o+off)).take (aV E.P t)):=fun j v hv=>by grind [pf,dy]
   refine⟨_,ng ha hR (by simp;omega),.pv (.agg (by simp[aZ];omega) (fun i p x hi hx=>?_) (fun i x hx=>?_))⟩
   ·grind [pf,ee,Nat.add_assoc]
   grind
  ·cases h
 ·rename_i ha;have ha:aF E.P t=false:=by simpa using ha
  split at h
  ·rename_i p hp;obtain⟨q,h1,h2,h3,_⟩:=mh h;obtain⟨d,hu⟩:=w9 h;refine⟨.pv q,fun R' k'=>by simp[tA,ha,hp,h1],h2,by simp,fun μ φ w g o c T hg hs hc _ hl=>?_⟩;rw[ee hs]at hp;have TR:off<e.cells.length:=(IS.1 hp).1;have hx:c[o+off]?=some c[o+off]:=T0 (by omega);exact⟨_,iM hu ha (by rw[dy hg];omega),.pv (h3 _ _ _ (hc off p _ hp hx))⟩
  ·cases h
variable{p:PV}
theorem TS{k:PV→Option R}{r:R}(h:gQ E t p k=some r):p.isRow=false∧p≠.bad:=by
 cases p with
 |qV s es=>exfalso;unfold gQ at h;split at h<;>simp[asInt,asBool,dg,aP,asAgg,Se,dZ]at h
 |bad=>exfalso;unfold gQ at h;split at h<;>simp[asInt,asBool,dg,aP,asAgg,Se,dZ]at h
 |_=>exact⟨rfl,by simp⟩
theorem HI(h:cell e off=p)(hp:p≠.bad):e.cells[off]?=some p:=by grind [cell,absurd]
theorem Lj{rs:List PV}(h:fh s p=some rs):p=.qV s rs:=by unfold fh at h;grind
variable{P:Program}{μ:Ro}{φ:Nat→aH}{w:World}{id i:Nat}{et:TypeId}{es:List PV}
theorem bd.cell{sz:Nat}(h:bd P μ φ w id sz et es){g:Nat}(hg:(φ id).g=some g)(he:es[i]?=some e)(hp:e.cells[off]?=some p):∃c T x,w.heap[g]?=some (.cells c T (0,0))∧c[i*sz+off]?=some x∧eB P μ ((φ id).row i off) w p x∧x.oneCell'=true:=by
 obtain⟨a1,a2,a3,a4,a5,a6,a7⟩:=h;rw[hg]at a7;obtain⟨c,T,c1,c2,c3,c4,c5⟩:=a7;have hi:i<es.length:=(IS.1 he).1;have ho:off<sz:=by grind
 have h1:(i+1)*sz≤es.length*sz:=adq _ (by omega);have h2:es.length*sz≤(φ id).cap*sz:=adq _ c3;rw[ake]at h1;have cd:i*sz+off<c.size:=by omega
 exact⟨c,T,c[i*sz+off],c1,T0 cd,c4 i e off p _ he hp (T0 cd),c5 (i*sz+off) _ (by omega) (T0 cd)⟩
theorem bd.row{sz:Nat}(h:bd P μ φ w id sz et es){rs:List PV}(he:es[i]?=some e)(hr:fh s (Go.Ab.cell e off)=some rs):∃g x,(φ id).g=some g∧w.cell? ⟨g,i*sz+off,none⟩=some x∧eY P μ ((φ id).row i off) w s rs x∧e.cells[off]?=some (.qV s rs):=by
 have hp:=HI (Lj hr) (by simp);cases hg:(φ id).g with
 |none=>obtain⟨a1,a2,a3,a4,a5,a6,a7⟩:=h;simp_all
 |some g=>obtain⟨c,_,x,c1,c2,c3,_⟩:=h.cell hg he hp;exact⟨g,x,rfl,by rw[dy c1];omega,c3,hp⟩
theorem ah.abP{ν:Ro}{x:Value}(h:ah P μ (fun _=>((φ id).row i off).up) (.os 0) x):ah P ν φ (.wR id i off) x:=by
 cases h with
 |s9 h=>exact .Jk h
 |os h=>exact .wR h
theorem ah.Oq{ν:Ro}{x:Value}(h:ah P μ φ (.wR id i off) x):ah P ν (fun _=>((φ id).row i off).up) (.os 0) x:=by
 cases h with
 |Jk h=>exact .s9 h
 |wR h=>exact .os (id:=0) (φ:=fun _=>((φ id).row i off).up) h
theorem HJ{s:Nat}:∀{es:List PV}{k:Nat}{p:PV},(eV s es)[k]?=some p→∃i j e,k=i*s+j∧j<s∧es[i]?=some e∧(aJ s e)[j]?=some p
 |[],k,p,h=>by simp[eV]at h
 |e::es,k,p,h=>by
  simp only[eV]at h;rw[ajZ,aZ]at h;split at h
  ·exact⟨0,k,e,by omega,‹_›,rfl,h⟩
  ·obtain⟨i,j,e',h1,h2,h3,h4⟩:=HJ h;exact⟨i+1,j,e',by rw[ake];omega,h2,by simpa using h3,h4⟩
theorem B8{s:Nat}:∀{es:List PV},(eV s es).length=es.length*s
 |[]=>by simp[eV]
 |e::es=>by simp only[eV,ags,aZ,B8,ajv,ake];omega
theorem HK(h:BW E t s i off=true):aF E.P t=true∧i=0∧off=0∧∃n e,E.P.underlying t=some (.array n e)∧aV E.P e=s∧aF E.P e=true:=by
 unfold BW at h;split at h
 ·rename_i n e hu;simp only[T1]at h;grind [aF,Nat.eq_of_beq_eq_true]
 ·cases h
theorem aN.whole(hA:aN P μ φ w id s et es){g:Nat}(hg:(φ id).g=some g):∃xs:List Value,xs.length=es.length*s∧w.rangeAt g 0 xs∧ai P μ (.agg (eV s es)) (.agg xs.toArray):=by
 obtain⟨a1,a2,a3,a4,a5,a6,a7⟩:=hA;rw[hg]at a7;obtain⟨c,T,c1,c2,c3,c4,c5⟩:=a7;have hle:es.length*s≤c.size:=ajP (adq _ c3) c2;refine⟨c.toList.take (es.length*s),by simp;omega,fun j v hv=>?_,.agg (by rw[B8];simp;omega) (fun k p x hp hx=>?_) (fun k x hx=>?_)⟩
 ·grind [dy]
 ·obtain⟨i,j,e,rfl,hj,he,hp⟩:=HJ hp;grind [ee]
 grind
theorem Lg{own:Bool}{a:V}{m:Mem}{k:V→bG→Option R}{r:R}(h:qO E own t a m k=some r):∃v ft,(∀m2:Mem,(∀x∈ft,m2 x.2=m x.2)→∀(R':Type)(k':V→bG→Option R'),qO E own t a m2 k'=k' v ft)∧k v ft=some r∧(∀x∈ft,x.1=false)∧∀(G:Nat→Option (List PV))(w0:bI)(μ:Ro)(φ:Nat→aH)(w:World)(x:Value),az E.P G w0 μ φ m w→ah E.P μ φ a x→∃y,(Instr.loadAt t x).run E.P w=.ok y w∧ah E.P μ φ v y∧Quiet v m:=by
 unfold qO at h;split at h
 ·rename_i cs;split at h
  ·rename_i ha;split at h
   ·rename_i hn;refine⟨_,_,fun m2 _ R' k'=>by simp[qO,ha,hn],h,by simp,fun G w0 μ φ w x hM hx=>?_⟩;cases hx with
    |pv hp=>cases hp with
     |rp X h1 h2 h3=>obtain⟨hr,hv⟩:=ai.abO hM h1 h2 h3 hn;exact⟨_,ng ha hr (by simp),.pv hv,by simp[Quiet]⟩
   ·cases h
  ·rename_i ha;have ha:aF E.P t=false:=by simpa using ha
   obtain⟨p,HL,h⟩:=BY.1 h;have hp1:cs[0]?=some p:=by simp_all[alu]
   obtain⟨q,h1,h2,h3,_⟩:=mh h;refine⟨_,_,fun m2 _ R' k'=>by simp[qO,ha,HL,h1],h2,by simp,fun G w0 μ φ w x hM hx=>?_⟩;obtain⟨d,hu⟩:=w9 h;cases hx with
   |pv hp=>cases hp with
    |rp X g1 g2 g3=>have hc:=hM.cellAt (g1 0 p hp1);exact⟨_,iM hu ha (by omega),.pv (h3 _ _ _ (g2 0 p hp1)),by simp[Quiet]⟩
 ·rename_i id off;split at h
  ·rename_i cs hm;split at h
   ·rename_i ha;split at h
    ·rename_i hn;refine⟨_,_,fun m2 c9 R' k'=>by simp[qO,ha,hn,c9 (false,id) (by simp),hm],h,by simp,fun G w0 μ φ w x hM hx=>?_⟩;cases hx with
     | @op _ _ g hg=>
      obtain⟨g',c,T,cO,hh,hs,hv,h1,BN⟩:=hM.dH id _ hm;rw[hg]at cO;simp only[AT]at cO;subst cO;have hR:w.rangeAt g off ((c.toList.drop off).take (aV E.P t)):=fun j v hv=>by grind [pf,dy]
      refine⟨_,ng ha hR (by simp;omega),.agg (by simp;omega) (fun i p x hi hx=>?_) (fun i x hx=>?_),?_⟩
      ·grind
      ·grind
      ·intro sZ av;simp only[V.has]at av;obtain⟨v,hv,hh⟩:=cW.1 av;exact hM.fY id cs sZ hm (bU (ak8 (akN hv)) hh)
    ·cases h
   ·rename_i ha;have ha:aF E.P t=false:=by simpa using ha
    split at h
    ·rename_i ps pX;obtain⟨p,HL,h⟩:=BY.1 h;obtain⟨q,h1,h2,h3,_⟩:=mh h;refine⟨_,_,fun m2 c9 R' k'=>by simp[qO,ha,c9 (false,id) (by simp),hm,pX,HL,h1],h2,by simp,fun G w0 μ φ w x hM hx=>?_⟩;cases hx with
     | @op _ _ g hg=>
      obtain⟨g',c,T,cO,hh,hs,hvv,_⟩:=hM.dH id _ hm;rw[hg]at cO;simp only[AT]at cO;subst cO;obtain⟨f1,f2⟩:=iE pX;obtain⟨cd,hp1⟩:=IS.1 HL;have TR:off<cs.length:=by omega
      obtain⟨v,hv,oi⟩:=f2 off p HL;have hvp:v=.pv p:=by cases v<;>simp[pvO]at oi;subst oi;rfl
      subst hvp;have hx:c[off]?=some c[off]:=T0 (by omega);obtain⟨d,hu⟩:=w9 h;have hr:=hvv off _ _ hv hx;cases hr with
      |pv hr=>exact⟨_,iM hu ha (by rw[dy hh];omega),.pv (h3 _ _ _ hr),by simp[Quiet]⟩
    ·rename_i Y9;split at h
     ·rename_i v hv;obtain⟨u,h1,h2,h3,h4⟩:=Li h;refine⟨_,_,fun m2 c9 R' k'=>by simp[qO,ha,c9 (false,id) (by simp),hm,Y9,hv,h1],h2,by simp,fun G w0 μ φ w x hM hx=>?_⟩;cases hx with
      | @op _ _ g hg=>obtain⟨g',c,T,cO,hh,hs,hvv,_⟩:=hM.dH id _ hm;rw[hg]at cO;simp only[AT]at cO;subst cO;have TR:off<cs.length:=(IS.1 hv).1;have hx:c[off]?=some c[off]:=T0 (by omega);obtain⟨d,hu⟩:=HG h;refine⟨_,iM hu ha (by rw[dy hh];omega),h3 _ _ _ _ (hvv off v _ hv hx),fun sZ av=>?_⟩;exact hM.fY id cs sZ hm (bU (ah3 hv) (h4 sZ av))
     ·cases h
  ·cases h
 ·rename_i id i off;have key:∀(sz:Nat)(et:TypeId)(es:List PV),(m id=some (.arr sz et es)∨m id=some (.ri sz et es))→((es[i]?).bind fun e=>tA E sz t e off fun v=>k v [(false,id)])=some r→∃v,(∀(R':Type)(k':V→bG→Option R'),((es[i]?).bind fun e=>tA E sz t e off fun v=>k' v [(false,id)])=k' v [(false,id)])∧k v [(false,id)]=some r∧∀(G:Nat→Option (List PV))(w0:bI)(μ:Ro)(φ:Nat→aH)(w:World)(x:Value),az E.P G w0 μ φ m w→ah E.P μ φ (.oe id i off) x→∃y,(Instr.loadAt t x).run E.P w=.ok y w∧ah E.P μ φ v y∧Quiet v m:=by
   intro sz et es hm hb;obtain⟨e,he,hb⟩:=BY.1 hb;obtain⟨v,h1,h2,h3,h4⟩:=HH hb;refine⟨v,fun R' k'=>by simp[he,h1],h2,fun G w0 μ φ w x hM hx=>?_⟩;have hA:aN E.P μ φ w id sz et es:=by
    rcases hm with hm|hm
    ·exact hM.dH id _ hm
    ·exact(hM.dH id _ hm).1
   cases hx with
   | @oe _ _ _ g hg=>
    obtain⟨a1,a2,a3,a4,a5,a6,a7⟩:=hA;rw[hg]at a7;obtain⟨c,T,c1,c2,c3,c4,c5⟩:=a7;have hi:i<es.length:=(IS.1 he).1;obtain⟨y,hy,hv⟩:=h4 μ φ w g (i*sz) c T c1 (a5 i e he) (fun j p x hj hx=>c4 i e j p x he hj hx) (fun i' x ow hx=>c5 i' x (by
     have:(i+1)*sz≤es.length*sz:=adq _ (by omega);grind) hx) (by
     have:(i+1)*sz≤(φ id).cap*sz:=adq _ (by omega);grind)
    rw[a2];exact⟨y,hy,hv,fun id av=>by simp_all⟩
  split at h
  ·rename_i sz et es hm;cases hw:BW E t sz i off with
   |true=>
    rw[hw]at h;simp only[cond_true]at h;split at h
    ·rename_i hl;obtain⟨ha,rfl,rfl,_⟩:=HK hw;refine⟨_,_,fun m2 c9 R' k'=>by have:=c9 (false,id) (by simp);simp_all[qO,cond_true,BK],h,by simp,fun G w0 μ φ w x hM hx=>?_⟩;have hA:aN E.P μ φ w id sz et es:=hM.dH id _ hm;cases hx with
     | @oe _ _ _ g hg=>obtain⟨xs,x1,x2,x3⟩:=hA.whole hg;rw[am4];exact⟨_,ng ha x2 (by omega),.pv x3,by simp[Quiet]⟩
    ·cases h
   |false=>rw[hw]at h;obtain⟨v,h1,h2,h3⟩:=key sz et es (.inl hm) h;exact⟨v,_,fun m2 c9 R' k'=>by have:=c9 (false,id) (by simp);simp_all[qO,cond_false],h2,by simp,h3⟩
  ·rename_i sz et es hm;obtain⟨v,h1,h2,h3⟩:=key sz et es (.inr hm) h;exact⟨v,_,fun m2 c9 R' k'=>by have:=c9 (false,id) (by simp);simp_all[qO],h2,by simp,h3⟩
  ·rename_i sz et es hm;split at h
   ·cases h
   ·rename_i ha;obtain⟨e,he,h⟩:=BY.1 h;have ha':aF E.P t=false:=by simpa using ha
    split at h
    ·rename_i ho;split at h
     ·rename_i GZ hu;obtain⟨rs,hr,h⟩:=BY.1 h;refine⟨_,_,fun m2 c9 R' k'=>by have:=c9 (false,id) (by simp);simp_all[qO,IN,ajH,aaV],h,by simp,fun G w0 μ φ w x hM hx=>?_⟩;have hN:bd E.P μ φ w id sz et es:=hM.dH id _ hm;obtain⟨g,y,hg,hc,lB,_⟩:=hN.row he hr;cases hx with
      |oe cO=>rw[hg]at cO;simp only[AT]at cO;subst cO;rw[hN.2.1];refine⟨y,iM hu ha' hc,.abP lB.2,fun j hj=>?_⟩;have:=No hj;subst this;rw[hm];rfl
     ·cases h
    ·rename_i ho;obtain⟨q,h1,h2,h3,_⟩:=mh h;obtain⟨hq1,hq2⟩:=TS h;obtain⟨d,hu⟩:=w9 h;refine⟨_,_,fun m2 c9 R' k'=>by have:=c9 (false,id) (by simp);simp_all[qO,IN,ajH,abG,By],h2,by simp,fun G w0 μ φ w x hM hx=>?_⟩;have hN:bd E.P μ φ w id sz et es:=hM.dH id _ hm;cases hx with
     |oe hg=>obtain⟨c,_,y,c1,c2,c3,_⟩:=hN.cell hg he (HI rfl hq2);rw[hN.2.1];exact⟨y,iM hu ha' (by rw[dy c1];omega),.pv (h3 _ _ _ (c3.Sl hq1)),by simp[Quiet]⟩
  ·cases h
 ·rename_i id i off s j off2;split at h
  ·rename_i sz et es hm;obtain⟨e,he,h⟩:=BY.1 h;obtain⟨rs,hr,h⟩:=BY.1 h;obtain⟨q,hq,h⟩:=BY.1 h;obtain⟨v,h1,h2,h3,h4⟩:=HH h;refine⟨v,_,fun m2 c9 R' k'=>by have:=c9 (false,id) (by simp);simp_all[qO,ajH],h2,by simp,fun G w0 μ φ w x hM hx=>?_⟩;have hN:bd E.P μ φ w id sz et es:=hM.dH id _ hm;obtain⟨g,y,hg,hc,⟨⟨GZ,hA⟩,hV⟩,_⟩:=hN.row he hr;cases hx with
   | @AM _ _ _ _ _ _ g' cO hs=>obtain⟨a1,a2,a3,a4,a5,a6,a7⟩:=hA;have hgu:((φ id).row i off).up.g=some g':=cO;rw[hgu]at a7;obtain⟨c,T,c1,c2,c3,c4,c5⟩:=a7;have hj:j<rs.length:=(IS.1 hq).1;have e1:(j+1)*s≤rs.length*s:=adq _ (by omega);have e2:rs.length*s≤((φ id).row i off).up.cap*s:=adq _ c3;have e3:((φ id).row i off).up.cap*s≤c.size:=c2;rw[ake]at e1;obtain⟨y,hy,hv⟩:=h4 μ φ w g' (j*s) c T c1 (a5 j q hq) (fun l p x hl hx=>c4 j q l p x hq hl hx) (fun i' x ow hx=>c5 i' x (by omega) hx) (by omega);exact⟨y,hy,hv,fun id av=>by simp_all⟩
  ·cases h
 ·cases h
end
section
variable {R:Type} {E:Env}
variable{s t:TypeId}{j o:Nat}
theorem Dh(h:AP E s j=some (o,t)):∃fs f,E.P.underlying s=some (.struct fs)∧fs[j]?=some f∧f.offset=o∧f.type=t∧aV E.P t≠0:=by unfold AP at h;grind
variable{P:Program}
theorem yH(h:aV P t≠0):∃i,P.info? t=some i∧i.size=aV P t:=by
 unfold aV at*;cases hi:P.info? t with
 |none=>simp[hi]at h
 |some i=>simp
variable{w:World}
theorem jU(h:aV P t≠0):(sizeOf t).run P w=.ok (aV P t) w:=by obtain⟨i,hi,hs⟩:=yH h;simp[sizeOf,typeInfo,hi,hs]
theorem tl{fs:Array Field}{f:Field}{b:Nat}(hu:P.underlying s=some (.struct fs))(hf:fs[j]?=some f)(hz:aV P f.type≠0):(Instr.fieldAt s (.pointer (some ⟨b,o,none⟩)) j).run P w=.ok (.pointer (some ⟨b,o+f.offset,none⟩)) w:=by simp_all[Instr.fieldAt,run_underlying,Instr.sureAddr,fieldPlace,jU,Addr.add_mid]
theorem rM{T:Type}{l:List T}{i:Nat}{x:T}(h:(l.drop o)[i]?=some x):l[o+i]?=some x:=by simp_all
theorem ai.Jl{μ:Ro}{cs:List PV}{b:Nat}(n:Nat)(h:ai P μ (.rp cs) (.pointer (some ⟨b,o,none⟩))):ai P μ (.rp (cs.drop n)) (.pointer (some ⟨b,o+n,none⟩)):=by
 cases h with
 |rp X h1 h2 h3=>
  refine .rp (fun i=>X (n+i)) (fun i p hi=>?_) (fun i p hi=>h2 _ p (rM hi)) (fun i hi=>h3 _ ?_)
  ·grind
  ·simp at hi;omega
variable{x:V}{k:V→Option R}{r:R}
theorem Ha(h:kr E s x j k=some r):∃v,(∀(R':Type)(k':V→Option R'),kr E s x j k'=k' v)∧k v=some r∧(∀id,v.has id=x.has id)∧∀(μ:Ro)(φ:Nat→aH)(w:World)(y:Value),ah E.P μ φ x y→∃z,(Instr.fieldAt s y j).run E.P w=.ok z w∧ah E.P μ φ v z:=by
 unfold kr at h;split at h
 ·rename_i o t ho;obtain⟨fs,f,hu,hf,rfl,rfl,hz⟩:=Dh ho;split at h
  ·rename_i cs;refine⟨_,fun R' k'=>by simp[kr,ho],h,by simp,fun μ φ w y hy=>?_⟩;cases hy with
   |pv hp=>cases hp with
    |rp X h1 h2 h3=>exact⟨_,tl hu hf hz,.pv (ai.Jl _ (.rp X h1 h2 h3))⟩
  ·rename_i id off;refine⟨_,fun R' k'=>by simp[kr,ho],h,by simp[V.has],fun μ φ w y hy=>?_⟩;cases hy with
   |op hg=>exact⟨_,tl hu hf hz,.op hg⟩
  ·rename_i id i off;refine⟨_,fun R' k'=>by simp[kr,ho],h,by simp[V.has],fun μ φ w y hy=>?_⟩;cases hy with
   |oe hg=>exact⟨_,tl hu hf hz,by rw[akl];exact .oe hg⟩
  ·refine⟨_,fun R' k'=>by simp[kr,ho],h,by simp[V.has],fun μ φ w y hy=>?_⟩;cases hy with
   |AM hg hs=>exact⟨_,tl hu hf hz,by rw[akl];exact .AM hg hs⟩
  ·cases h
 ·cases h
theorem iN{e:TypeId}{q:IntKind}{i:Int}{ad:Addr}{len cap:Nat}(hu:P.underlying t=some (.slice e))(hz:aV P e≠0)(h0:0≤i)(h1:i<(len:Int)):(Instr.indexAt t (.slice (some ad) len cap) (.int q i)).run P w=.ok (.pointer (some (ad.add (i.toNat*aV P e)))) w:=by simp[Instr.indexAt,asIntOf,run_underlying hu,h0,h1,jU hz]
theorem mj{e:TypeId}{n:Nat}{q:IntKind}{i:Int}{ad:Addr}(hu:P.underlying t=some (.array n e))(hz:aV P e≠0)(h0:0≤i)(h1:i<(n:Int)):(Instr.indexAt t (.pointer (some ad)) (.int q i)).run P w=.ok (.pointer (some (ad.add (i.toNat*aV P e)))) w:=by simp[Instr.indexAt,asIntOf,run_underlying hu,h0,h1,jU hz,Instr.sureAddr]
theorem Zz{es:List PV}{i:Int}{p:PV}(h:aD es i=some p):0≤i∧es[i.toNat]?=some p∧i<(es.length:Int):=by grind [aD]
theorem ai.Sq{μ:Ro}{sz:Nat}{es:List PV}{x:Value}{n:Nat}{p:PV}(h:ai P μ (.rs sz es) x)(hp:es[n]?=some p):∃b o cap,x=.slice (some ⟨b,o,none⟩) es.length cap∧ai P μ (.rp (aJ sz p)) (.pointer (some ⟨b,o+n*sz,none⟩)):=by
 cases h with
 |lk=>simp at hp
 |G9 _=>simp at hp
 | @rs _ _ b o cap X h1 h2 h3 h4 h5 h6=>refine⟨b,o,cap,rfl,?_⟩;rw[ee (h3 n p hp)];exact .rp (X n) (fun i q hi=>h4 n p i q hp hi) (fun i q hi=>h5 n p i q hp hi) (fun i hi=>h6 n p i _ hp (AI hi))
theorem Hb{ix:V}{m:Mem}{k:V→bG→Option R}(h:dp E t x ix m k=some r):∃v ft,(∀m2:Mem,(∀x∈ft,m2 x.2=m x.2)→∀(R':Type)(k':V→bG→Option R'),dp E t x ix m2 k'=k' v ft)∧k v ft=some r∧(∀x∈ft,x.1=false)∧(∀id,v.has id=true→x.has id=true)∧∀(G:Nat→Option (List PV))(w0:bI)(μ:Ro)(φ:Nat→aH)(w:World)(y z:Value),az E.P G w0 μ φ m w→ah E.P μ φ x y→ah E.P μ φ ix z→∃u,(Instr.indexAt t y z).run E.P w=.ok u w∧ah E.P μ φ v u:=by
 unfold dp at h;split at h
 ·rename_i q i;split at h
  ·rename_i e s es hu;split at h
   ·rename_i hs;obtain⟨p,hp,hk⟩:=BY.1 h;refine⟨_,_,fun m2 _ R' k'=>by simp only[dp,hu];rw[BK hs,hp];rfl,hk,by simp,by simp,fun G w0 μ φ w y z hM hy hz=>?_⟩;obtain⟨h0,hp,hl⟩:=Zz hp;cases hz with
    |pv hz=>cases hz with
     |int AX=>
      cases hy with
      |pv hy=>obtain⟨b,o,cap,rfl,hr⟩:=hy.Sq hp;refine⟨_,iN hu (by omega) h0 hl,?_⟩;rw[Addr.add_mid,←hs.1];exact .pv hr
   ·cases h
  ·rename_i e id hu;have key:∀(s:Nat)(et:TypeId)(es:List PV),(m id=some (.arr s et es)∨m id=some (.ri s et es))→s=aV E.P e∧0<s→ae i es.length→∀(G:Nat→Option (List PV))(w0:bI)(μ:Ro)(φ:Nat→aH)(w:World)(y z:Value),az E.P G w0 μ φ m w→ah E.P μ φ (.os id) y→ah E.P μ φ (.pv (.int q i)) z→∃u,(Instr.indexAt t y z).run E.P w=.ok u w∧ah E.P μ φ (.oe id i.toNat 0) u:=by
    intro s et es hm hs hr G w0 μ φ w y z hM hy hz;have hA:aN E.P μ φ w id s et es:=by
     rcases hm with hm|hm
     ·exact hM.dH id _ hm
     ·exact(hM.dH id _ hm).1
    obtain⟨a1,a2,a3,a4,a5,a6,a7⟩:=hA;cases hz with
    |pv hz=>cases hz with
     |int AX=>
      cases hy with
      |s9 hg=>grind [ae]
      | @os _ g hg=>refine⟨_,iN hu (by omega) hr.1 (by rw[a1];exact hr.2),?_⟩;rw[Addr.add_mid];have:=ah.oe (P:=E.P) (μ:=μ) (φ:=φ) (id:=id) (i:=i.toNat) (off:=0) hg;simp_all
   split at h
   ·rename_i s et es hm;split at h
    ·rename_i hs;split at h
     ·rename_i hr;exact⟨_,_,fun m2 c9 R' k'=>by have:=c9 (false,id) (by simp);simp only at this;simp only[dp,hu,this,hm];grind,h,by simp,by simp[V.has],key s et es (.inl hm) hs hr⟩
     ·cases h
    ·cases h
   ·rename_i s et es hm;split at h
    ·rename_i hs;split at h
     ·rename_i hr;exact⟨_,_,fun m2 c9 R' k'=>by have:=c9 (false,id) (by simp);simp only at this;simp only[dp,hu,this,hm];grind,h,by simp,by simp[V.has],key s et es (.inr hm) hs hr⟩
     ·cases h
    ·cases h
   ·rename_i s et es hm;split at h
    ·rename_i hs;split at h
     ·rename_i hr;refine⟨_,_,fun m2 c9 R' k'=>by have:=c9 (false,id) (by simp);simp only at this;simp only[dp,hu,this,hm];grind,h,by simp,by simp[V.has],fun G w0 μ φ w y z hM hy hz=>?_⟩;have hA:bd E.P μ φ w id s et es:=hM.dH id _ hm;obtain⟨a1,a2,a3,a4,a5,a6,a7⟩:=hA;cases hz with
      |pv hz=>cases hz with
       |int AX=>
        cases hy with
        |s9 hg=>grind [ae]
        | @os _ g hg=>refine⟨_,iN hu (by omega) hr.1 (by rw[a1];exact hr.2),?_⟩;rw[Addr.add_mid];have:=ah.oe (P:=E.P) (μ:=μ) (φ:=φ) (id:=id) (i:=i.toNat) (off:=0) hg;simp_all
     ·cases h
    ·cases h
   ·rename_i cs hm;split at h
    ·rename_i hs;refine⟨_,_,fun m2 c9 R' k'=>by have:=c9 (false,id) (by simp);simp_all[dp,BK],h,by simp,by simp[V.has],fun G w0 μ φ w y z hM hy hz=>?_⟩;obtain⟨g,c,T,hg,hh,oh,hv,ta,BN⟩:=hM.dH id _ hm;cases hz with
     |pv hz=>cases hz with
      |int AX=>
       cases hy with
       |s9 cO=>simp_all
       | @os _ g' cO=>refine⟨_,iN hu (by omega) hs.2.1 (by rw[BN];exact hs.2.2),?_⟩;rw[Addr.add_mid,hs.1];have:=ah.op (P:=E.P) (μ:=μ) (φ:=φ) (id:=id) (off:=i.toNat) cO;simpa using this
    ·cases h
   ·cases h
  ·rename_i e id i0 off hu;split at h
   ·rename_i s0 et0 es hm;split at h
    ·rename_i eF;obtain⟨e0,he,h⟩:=BY.1 h;obtain⟨rs,N3,h⟩:=BY.1 h;split at h
     ·rename_i hr;refine⟨_,_,fun m2 c9 R' k'=>by have:=c9 (false,id) (by simp);simp_all[dp,BK,ajH],h,by simp,by simp[V.has],fun G w0 μ φ w y z hM hy hz=>?_⟩;have hN:bd E.P μ φ w id s0 et0 es:=hM.dH id _ hm;obtain⟨_,_,_,_,⟨⟨GZ,hA⟩,_⟩,_⟩:=hN.row he N3;obtain⟨a1,a2,a3,a4,a5,a6,a7⟩:=hA;cases hz with
      |pv hz=>cases hz with
       |int AX=>
        cases hy with
        |Jk hg=>have cO:((φ id).row i0 off).up.g=none:=hg;simp_all[ae]
        | @wR _ _ _ g hg=>have a1':((φ id).row i0 off).len=rs.length:=a1;refine⟨_,iN hu (by omega) hr.1 (by rw[a1'];exact hr.2),?_⟩;rw[Addr.add_mid];have:=ah.AM (P:=E.P) (μ:=μ) (φ:=φ) (id:=id) (i:=i0) (off:=off) (s:=aV E.P e) (j:=i.toNat) (off2:=0) hg a2;simpa using this
     ·cases h
    ·cases h
   ·cases h
  ·rename_i e id lo len hu;have key:∀(s:Nat)(et:TypeId)(es:List PV),(m id=some (.arr s et es)∨m id=some (.ri s et es))→s=aV E.P e∧0<s→ae i len→∀(G:Nat→Option (List PV))(w0:bI)(μ:Ro)(φ:Nat→aH)(w:World)(y z:Value),az E.P G w0 μ φ m w→ah E.P μ φ (.fX id lo len) y→ah E.P μ φ (.pv (.int q i)) z→∃u,(Instr.indexAt t y z).run E.P w=.ok u w∧ah E.P μ φ (.oe id (lo+i.toNat) 0) u:=by
    intro s et es hm hs hr G w0 μ φ w y z hM hy hz;have hA:aN E.P μ φ w id s et es:=by
     rcases hm with hm|hm
     ·exact hM.dH id _ hm
     ·exact(hM.dH id _ hm).1
    obtain⟨a1,a2,a3,a4,a5,a6,a7⟩:=hA;cases hz with
    |pv hz=>cases hz with
     |int AX=>
      cases hy with
      |rJ hg=>simp[ae]at hr;omega
      | @fX _ _ _ DV g ad hg hl ha hc1 Wf=>
       have ha:=ha.resolve_right fun hh=>by have:=hr.1;have:=hr.2;omega
       subst ha;refine⟨_,iN hu (by omega) hr.1 hr.2,?_⟩;rw[Addr.add_mid];have:=ah.oe (P:=E.P) (μ:=μ) (φ:=φ) (id:=id) (i:=lo+i.toNat) (off:=0) hg;grind
   split at h
   ·rename_i s et es hm;split at h
    ·rename_i hs;split at h
     ·rename_i hr;exact⟨_,_,fun m2 c9 R' k'=>by have:=c9 (false,id) (by simp);simp only at this;simp only[dp,hu,this,hm];grind,h,by simp,by simp[V.has],key s et es (.inl hm) hs hr⟩
     ·cases h
    ·cases h
   ·rename_i s et es hm;split at h
    ·rename_i hs;split at h
     ·rename_i hr;exact⟨_,_,fun m2 c9 R' k'=>by have:=c9 (false,id) (by simp);simp only at this;simp only[dp,hu,this,hm];grind,h,by simp,by simp[V.has],key s et es (.inr hm) hs hr⟩
     ·cases h
    ·cases h
   ·cases h
  ·rename_i n e id off hu;split at h
   ·rename_i hr;refine⟨_,_,fun m2 _ R' k'=>by simp_all[dp,BK],h,by simp,by simp[V.has],fun G w0 μ φ w y z hM hy hz=>?_⟩;cases hz with
    |pv hz=>cases hz with
     |int AX=>
      cases hy with
      |op hg=>exact⟨_,mj hu (by omega) hr.1.1 hr.1.2,by rw[Addr.add_mid];exact .op hg⟩
   ·cases h
  ·rename_i n e cs hu;split at h
   ·rename_i hr;refine⟨_,_,fun m2 _ R' k'=>by simp_all[dp,BK],h,by simp,by simp,fun G w0 μ φ w y z hM hy hz=>?_⟩;cases hz with
    |pv hz=>cases hz with
     |int AX=>
      cases hy with
      |pv hy=>cases hy with
       |rp X h1 h2 h3=>exact⟨_,mj hu (by omega) hr.1.1 hr.1.2,by rw[Addr.add_mid];exact .pv (ai.Jl _ (.rp X h1 h2 h3))⟩
   ·cases h
  ·rename_i n e id j off hu;split at h
   ·rename_i hr;split at h
    ·rename_i hb;refine⟨_,_,fun m2 c9 R' k'=>by have:=c9 (false,id) (by simp);simp_all[dp,BK],h,by simp,by simp[V.has],fun G w0 μ φ w y z hM hy hz=>?_⟩;have oh:(φ id).sz=aV E.P e:=by
      split at hb
      ·rename_i s et es hm;rw[No hb];have hA:aN E.P μ φ w id s et es:=hM.dH id _ hm;exact hA.2.1
      ·cases hb
     cases hz with
     |pv hz=>cases hz with
      |int AX=>
       cases hy with
       |oe hg=>refine⟨_,mj hu (by omega) hr.1.1 hr.1.2,?_⟩;have:=ah.oe (P:=E.P) (μ:=μ) (φ:=φ) (id:=id) (i:=i.toNat+j) (off:=off) hg;grind [Addr.add_mid,id,aV,Nat.add_mul]
    ·rename_i hb;refine⟨_,_,fun m2 c9 R' k'=>by have:=c9 (false,id) (by simp);simp_all[dp,BK],h,by simp,by simp[V.has],fun G w0 μ φ w y z hM hy hz=>?_⟩;cases hz with
     |pv hz=>cases hz with
      |int AX=>
       cases hy with
       |oe hg=>exact⟨_,mj hu (by omega) hr.1.1 hr.1.2,by rw[Addr.add_mid,akl];exact .oe hg⟩
   ·cases h
  ·cases h
 ·cases h
theorem py{cs:List V}(h:rF x=some cs):(∀id,cD id cs=true→x.has id=true)∧∀(P:Program)(μ:Ro)(φ:Nat→aH)y,ah P μ φ x y→∃xs:Array Value,y=.agg xs∧cs.length=xs.size∧(∀(i:Nat)p x,cs[i]?=some p→xs[i]?=some x→ah P μ φ p x)∧(∀(i:Nat)(x:Value),xs[i]?=some x→x.oneCell'=true):=by
 unfold rF at h;split at h
 ·simp only[AT]at h;subst h;refine⟨fun id av=>(by rw[Sn]at av;cases av),fun P μ φ y hy=>?_⟩;cases hy with
  |pv hy=>cases hy with
   |agg h1 h2 h3=>refine⟨_,rfl,by simpa using h1,fun i p x hi hx=>?_,h3⟩;simp only[IT,ah2]at hi;obtain⟨q,hq,rfl⟩:=hi;exact .pv (h2 i q x hq hx)
 ·simp only[AT]at h;subst h;refine⟨fun id av=>by simpa[V.has]using av,fun P μ φ y hy=>?_⟩;cases hy with
  |agg h1 h2 h3=>grind
 ·cases h
variable{xs:Array Value}{off:Nat}
theorem AY(ha:aF P t=true):(part t xs off).run P w=.ok (.agg (xs.extract off (off+aV P t))) w:=by obtain⟨d,hu,_⟩:=EW ha;simp_all[part,B7,Dg]
theorem AZ{d:TypeDesc}{y:Value}(hu:P.underlying t=some d)(ha:aF P t=false)(hy:xs[off]?=some y):(part t xs off).run P w=.ok y w:=by simp[part,B7 hu,ha,hy]
theorem Lk{cs:List V}(h:EG E t cs off k=some r):∃v,(∀(R':Type)(k':V→Option R'),EG E t cs off k'=k' v)∧k v=some r∧(∀id,v.has id=true→cD id cs=true)∧∀(μ:Ro)(φ:Nat→aH)(w:World)(xs:Array Value),cs.length=xs.size→(∀(i:Nat)p x,cs[i]?=some p→xs[i]?=some x→ah E.P μ φ p x)→(∀(i:Nat)(x:Value),xs[i]?=some x→x.oneCell'=true)→∃z,(part t xs off).run E.P w=.ok z w∧ah E.P μ φ v z:=by
 unfold EG at h;split at h
 ·rename_i ha;split at h
  ·rename_i hn;refine⟨_,fun R' k'=>by simp[EG,ha,hn],h,fun id av=>?_,fun μ φ w xs h1 h2 h3=>⟨_,AY ha,?_⟩⟩
   ·simp only[V.has]at av;obtain⟨v,hv,hh⟩:=cW.1 av;grind [bU,List.mem_of_mem_drop,List.mem_of_mem_take]
   ·refine .agg (by simp;omega) (fun i p x hi hx=>?_) (fun i x hx=>?_)
    ·grind
    grind [Array.getElem?_extract]
  ·cases h
 ·rename_i ha;have ha:aF E.P t=false:=by simpa using ha
  split at h
  ·rename_i v hv;obtain⟨u,h1,h2,h3,h4⟩:=Li h;obtain⟨d,hu⟩:=HG h;refine⟨u,fun R' k'=>by simp[EG,ha,hv,h1],h2,fun id av=>bU (ah3 hv) (h4 id av),fun μ φ w xs g1 g2 g3=>?_⟩;have cd:off<cs.length:=(IS.1 hv).1;have hx:xs[off]?=some xs[off]:=T0 (by omega);grind [AZ]
  ·cases h
theorem TT(h:EH E s x j k=some r):∃v,(∀(R':Type)(k':V→Option R'),EH E s x j k'=k' v)∧k v=some r∧(∀id,v.has id=true→x.has id=true)∧∀(μ:Ro)(φ:Nat→aH)(w:World)(y:Value),ah E.P μ φ x y→∃z,(Instr.field s y j).run E.P w=.ok z w∧ah E.P μ φ v z:=by
 unfold EH at h;split at h
 ·rename_i o t cs ho hc;obtain⟨fs,f,hu,hf,rfl,rfl,hz⟩:=Dh ho;obtain⟨v,h1,h2,h3,h4⟩:=Lk h;obtain⟨c1,c2⟩:=py hc;refine⟨v,fun R' k'=>by simp[EH,ho,hc,h1],h2,fun id av=>c1 id (h3 id av),fun μ φ w y hy=>?_⟩;obtain⟨xs,rfl,g1,g2,g3⟩:=c2 _ _ _ _ hy;obtain⟨z,hz,hv⟩:=h4 μ φ w xs g1 g2 g3;exact⟨z,by simp[Instr.field,run_underlying hu,hf,Go.asAgg,hz],hv⟩
 ·cases h
theorem wf_u8(b:UInt8):(Lit.int .u8 b.toNat).wf=true:=by rw[nf];have:=b.toNat_lt;simp[IntKind.min,IntKind.max,IntKind.signed,IntKind.bits];omega
theorem TU{ix:V}(h:B0 E t x ix k=some r):∃v,(∀(R':Type)(k':V→Option R'),B0 E t x ix k'=k' v)∧k v=some r∧(∀id,v.has id=true→x.has id=true)∧∀(μ:Ro)(φ:Nat→aH)(w:World)(y z:Value),ah E.P μ φ x y→ah E.P μ φ ix z→∃u,(Instr.index t y z).run E.P w=.ok u w∧ah E.P μ φ v u:=by
 unfold B0 at h;split at h
 ·rename_i q i;split at h
  ·rename_i s hu;obtain⟨b,hb,hk⟩:=BY.1 h;refine⟨_,fun R' k'=>by simp[B0,hu,hb],hk,by simp,fun μ φ w y z hy hz=>?_⟩;cases hz with
   |pv hz=>cases hz with
    |int AX=>
     cases hy with
     |pv hy=>cases hy with
      |str hl=>
       unfold TN at hb;split at hb
       ·rename_i h0;have cd:=(IS.1 hb).1;have iv:(⟨s.toArray⟩:ByteArray)[i.toNat]?=some b:=by
         rw[getElem?_def];have:i.toNat<(⟨s.toArray⟩:ByteArray).size:=by simpa[ByteArray.size]using cd
         rw[ana this];have e:=(IS.1 hb).2;simp only[AT];rw[←e];rfl
        refine⟨_,?_,.pv (.int (wf_u8 b))⟩;simp[Instr.index,asIntOf,run_underlying hu,h0,iv]
       ·cases hb
  ·rename_i n et hu;split at h
   ·rename_i cs hc;split at h
    ·rename_i hn;obtain⟨v,h1,h2,h3,h4⟩:=Lk h;obtain⟨c1,c2⟩:=py hc;refine⟨v,fun R' k'=>by simp only[B0,hu,hc];rw[BK hn,h1],h2,fun id av=>c1 id (h3 id av),fun μ φ w y z hy hz=>?_⟩;obtain⟨xs,rfl,g1,g2,g3⟩:=c2 _ _ _ _ hy;obtain⟨u,hu1,hv⟩:=h4 μ φ w xs g1 g2 g3;cases hz with
     |pv hz=>cases hz with
      |int AX=>refine⟨u,?_,hv⟩;have hr:=hn.1;unfold ae at hr;simp[Instr.index,asIntOf,run_underlying hu,hr.1,hr.2,jU (show aV E.P et≠0 by omega),hu1]
    ·cases h
   ·cases h
  ·cases h
 ·cases h
end
section
variable {R:Type} {E:Env}
theorem EX(s:Bytes):(⟨s.toArray⟩:ByteArray).size=s.length:=by rfl
theorem EY{n:Nat}(h:n≤maxLen):(Lit.int .i64 (n:Int)).wf=true:=by grind [nf,maxLen,IntKind.min,IntKind.max,IntKind.signed,IntKind.bits]
variable{P:Program}{μ:Ro}{sz:Nat}{es:List PV}
theorem abQ{x:Value}(h:ai P μ (.rs sz es) x):∃a cap,x=.slice a es.length cap∧es.length≤maxLen:=by
 cases h with
 |lk=>simp
 | @G9 _ cap a h=>simp
 |rs X h1 h2=>grind
variable{φ:Nat→aH}{m:Mem}{w:World}
theorem az.arr{G:Nat→Option (List PV)}{w0:bI}(hM:az P G w0 μ φ m w){id s:Nat}{et:TypeId}(hm:m id=some (.arr s et es)∨m id=some (.ri s et es)):aN P μ φ w id s et es:=by
 rcases hm with hm|hm
 ·exact hM.dH id _ hm
 ·exact(hM.dH id _ hm).1
theorem aN.pz{id s:Nat}{et:TypeId}(h:aN P μ φ w id s et es):es.length≤(φ id).cap∧(φ id).cap≤maxLen:=by obtain⟨a1,a2,a3,a4,a5,a6,a7⟩:=h;grind
variable{x:V}{k:Nat→bG→Option R}{r:R}
theorem ZA(h:G7 m x k=some r):∃n ft,(∀m2:Mem,(∀x∈ft,m2 x.2=m x.2)→∀(R':Type)(k':Nat→bG→Option R'),G7 m2 x k'=k' n ft)∧k n ft=some r∧(∀x∈ft,x.1=false)∧∀(P:Program)(G:Nat→Option (List PV))(w0:bI)(μ:Ro)(φ:Nat→aH)(w:World)(y:Value),az P G w0 μ φ m w→ah P μ φ x y→(∀id,x.has id=true→(m id).isSome=true)→n≤maxLen∧∃a cap,y=.slice a n cap:=by
 unfold G7 at h;split at h
 ·refine⟨_,_,fun m2 _ R' k'=>by rfl,h,by simp,fun P G w0 μ φ w y hM hy _=>?_⟩;cases hy with
  |pv hy=>obtain⟨a,cap,rfl,hl⟩:=abQ hy;simp_all
 ·refine⟨_,_,fun m2 _ R' k'=>by rfl,h,by simp,fun P G w0 μ φ w y hM hy _=>?_⟩;cases hy;simp
 ·rename_i id lo len;have key:∀(s:Nat)(et:TypeId)(es:List PV),(m id=some (.arr s et es)∨m id=some (.ri s et es))→∀(P:Program)(G:Nat→Option (List PV))(w0:bI)(μ:Ro)(φ:Nat→aH)(w:World)(y:Value),az P G w0 μ φ m w→ah P μ φ (.fX id lo len) y→len≤maxLen∧∃a cap,y=.slice a len cap:=by
   intro s et es hm P G w0 μ φ w y hM hy;have hA:=hM.arr hm;have hl:=hA.pz;cases hy with
   |rJ=>simp
   |fX hg N4 ha=>grind
  split at h
  ·rename_i s et es hm;exact⟨_,_,fun m2 c9 R' k'=>by have:=c9 (false,id) (by simp);simp_all[G7],h,by simp,fun P G w0 μ φ w y hM hy _=>key s et es (.inl hm) P G w0 μ φ w y hM hy⟩
  ·rename_i s et es hm;exact⟨_,_,fun m2 c9 R' k'=>by have:=c9 (false,id) (by simp);simp_all[G7],h,by simp,fun P G w0 μ φ w y hM hy _=>key s et es (.inr hm) P G w0 μ φ w y hM hy⟩
  ·cases h
 ·rename_i id;split at h
  ·rename_i s et es hm;refine⟨_,_,fun m2 c9 R' k'=>by have:=c9 (false,id) (by simp);simp_all[G7],h,by simp,fun P G w0 μ φ w y hM hy _=>?_⟩;have hA:=hM.arr (.inl hm);have hl:=hA.pz;obtain⟨a1,a2,a3,a4,a5,a6,a7⟩:=hA;refine⟨by omega,?_⟩;cases hy with
   |s9 hg=>simp_all
   |os hg=>simp_all
  ·rename_i s et es hm;refine⟨_,_,fun m2 c9 R' k'=>by have:=c9 (false,id) (by simp);simp_all[G7],h,by simp,fun P G w0 μ φ w y hM hy _=>?_⟩;have hA:=hM.arr (.inr hm);have hl:=hA.pz;obtain⟨a1,a2,a3,a4,a5,a6,a7⟩:=hA;refine⟨by omega,?_⟩;cases hy with
   |s9 hg=>simp_all
   |os hg=>simp_all
  ·rename_i s et es hm;refine⟨_,_,fun m2 c9 R' k'=>by have:=c9 (false,id) (by simp);simp_all[G7],h,by simp,fun P G w0 μ φ w y hM hy _=>?_⟩;have hA:bd P μ φ w id s et es:=hM.dH id _ hm;obtain⟨a1,a2,a3,a4,a5,a6,a7⟩:=hA;have hl:es.length≤(φ id).cap:=by grind
   refine⟨by omega,?_⟩;cases hy with
   |s9 hg=>simp_all
   |os hg=>simp_all
  ·rename_i cs hm;split at h
   ·rename_i hlen;refine⟨_,_,fun m2 c9 R' k'=>by have:=c9 (false,id) (by simp);simp_all[G7],h,by simp,fun P G w0 μ φ w y hM hy _=>?_⟩;obtain⟨g,c,T,hg,hh,hs,hv,ta,BN⟩:=hM.dH id _ hm;refine⟨hlen,?_⟩;cases hy with
    |s9 cO=>simp_all
    |os cO=>simp_all
   ·cases h
  ·cases h
 ·cases h
theorem ZB(h:TO sz m x k=some r):∃n ft,(∀m2:Mem,(∀x∈ft,m2 x.2=m x.2)→∀(R':Type)(k':Nat→bG→Option R'),TO sz m2 x k'=k' n ft)∧k n ft=some r∧(∀x∈ft,x.1=false)∧∀(P:Program)(G:Nat→Option (List PV))(w0:bI)(μ:Ro)(φ:Nat→aH)(w:World)(y:Value),az P G w0 μ φ m w→ah P μ φ x y→(∀id,x.has id=true→(m id).isSome=true)→n≤maxLen∧∃a cap,y=.slice a n cap:=by
 unfold TO at h;split at h
 ·rename_i id i off;split at h
  ·rename_i s et es hm;obtain⟨e,he,h⟩:=BY.1 h;obtain⟨rs,hr,h⟩:=BY.1 h;refine⟨_,_,fun m2 c9 R' k'=>by have:=c9 (false,id) (by simp);simp_all[TO],h,by simp,fun P G w0 μ φ w y hM hy _=>?_⟩;have hN:bd P μ φ w id s et es:=hM.dH id _ hm;obtain⟨_,_,_,_,⟨⟨GZ,hA⟩,_⟩,_⟩:=hN.row he hr;have hl:=hA.pz;have a1:=hA.1;refine⟨by omega,?_⟩;have hy:=hy.Oq (ν:=μ);cases hy with
   |s9 hg=>have a7:=hA.2.2.2.2.2.2;simp_all
   |os hg=>simp_all
  ·cases h
 ·rename_i cY;obtain⟨n,ft,h1,h2,h3,h4⟩:=ZA h;refine⟨n,ft,fun m2 c9 R' k'=>?_,h2,h3,h4⟩;unfold TO;simp_all
theorem ZC(h:V1 m x k=some r):∃n ft,(∀m2:Mem,(∀x∈ft,m2 x.2=m x.2)→∀(R':Type)(k':Nat→bG→Option R'),V1 m2 x k'=k' n ft)∧k n ft=some r∧(∀x∈ft,x.1=false)∧n≤maxLen∧∀(P:Program)(G:Nat→Option (List PV))(w0:bI)(μ:Ro)(φ:Nat→aH)(w:World)(y:Value)(t kt et ty:TypeId),P.underlying t=some (.map kt et)→az P G w0 μ φ m w→ah P μ φ x y→(Builtin.len_ #[t] ty #[y]).run P w=.ok (.int .i64 n) w:=by
 unfold V1 at h;split at h
 ·rename_i id;split at h
  ·rename_i kt es hm;split at h
   ·rename_i hl;refine⟨_,_,fun m2 c9 R' k'=>by have:=c9 (false,id) (by simp);simp_all[V1],h,by simp,hl,fun P G w0 μ φ w y t kt et ty hu hM hy=>?_⟩;cases hy with
    | @om _ g hg=>obtain⟨g',en,clock,kk,cO,hh,hs,_⟩:=hM.dH id _ hm;simp_all[AT,Builtin.len_,run_underlying,getObj,Sem.run,goInt]
   ·cases h
  ·cases h
 ·refine⟨_,_,fun m2 _ R' k'=>by rfl,h,by simp,by simp,fun P G w0 μ φ w y t kt et ty hu hM hy=>?_⟩;cases hy with
  |pv hy=>cases hy;simp[Builtin.len_,run_underlying hu,goInt]
 ·cases h
variable{t:TypeId}
theorem ZD{k:V→bG→Option R}(h:K5 E t x m k=some r):∃v ft,(∀m2:Mem,(∀x∈ft,m2 x.2=m x.2)→∀(R':Type)(k':V→bG→Option R'),K5 E t x m2 k'=k' v ft)∧k v ft=some r∧(∀x∈ft,x.1=false)∧(∀id,v.has id=false)∧∀(G:Nat→Option (List PV))(w0:bI)(μ:Ro)(φ:Nat→aH)(w:World)(y:Value)(ty:TypeId),az E.P G w0 μ φ m w→ah E.P μ φ x y→(∀id,x.has id=true→(m id).isSome=true)→∃z,(Builtin.len_ #[t] ty #[y]).run E.P w=.ok z w∧ah E.P μ φ v z:=by
 unfold K5 at h;split at h
 ·rename_i n e hu;split at h
  ·rename_i hn;exact⟨_,_,fun m2 _ R' k'=>by simp[K5,hu,hn],h,by simp,by simp,fun G w0 μ φ w y ty hM hy _=>⟨_,by simp[Builtin.len_,run_underlying hu,goInt],.pv (.int (EY hn))⟩⟩
  ·cases h
 ·rename_i hu;split at h
  ·refine⟨_,_,fun m2 _ R' k'=>by simp[K5,hu],h,by simp,by simp,fun G w0 μ φ w y ty hM hy _=>?_⟩;cases hy with
   |pv hy=>cases hy with
    | @str s hl=>exact⟨_,by simp[Builtin.len_,run_underlying hu,goInt,EX],.pv (.int (EY hl))⟩
  ·cases h
 ·rename_i e hu;obtain⟨n,ft,h1,h2,h3,h4⟩:=ZB h;refine⟨_,ft,fun m2 c9 R' k'=>by simp only[K5,hu];rw[h1 m2 c9],h2,h3,by simp,fun G w0 μ φ w y ty hM hy hq=>?_⟩;obtain⟨hl,a,cap,rfl⟩:=h4 _ _ _ _ _ _ _ hM hy hq;exact⟨_,by simp[Builtin.len_,run_underlying hu,goInt],.pv (.int (EY hl))⟩
 ·rename_i kt et hu;obtain⟨n,ft,h1,h2,h3,hl,h4⟩:=ZC h;refine⟨_,ft,fun m2 c9 R' k'=>by simp only[K5,hu];rw[h1 m2 c9],h2,h3,by simp,fun G w0 μ φ w y ty hM hy hq=>?_⟩;exact⟨_,h4 _ _ _ _ _ _ _ _ _ _ _ hu hM hy,.pv (.int (EY hl))⟩
 ·cases h
theorem EZ{d i:Int}{v:Option V}(h:j5 d v=some i):(v=none∧i=d)∨∃q,v=some (.pv (.int q i)):=by unfold j5 at h;grind
theorem run_sliceBound{P:Program}{w:World}{q:IntKind}{i:Int}{y:Nat}{code:BoundsCode}(h0:0≤i)(h1:i≤(y:Int)):(Instr.sliceBound (.int q i) y code).run P w=.ok i.toNat w:=by simp[Instr.sliceBound,asIntOf,h0,h1]
variable{E0 ow:Option Value}
theorem ml{isS:Bool}{len cap:Nat}{l h:Int}{lo hi:Option V}(hl:j5 0 lo=some l)(hh:j5 len hi=some h)(rl:∀v,lo=some v→∃y,E0=some y∧ah P μ φ v y)(rl0:lo=none→E0=none)(rh:∀v,hi=some v→∃y,ow=some y∧ah P μ φ v y)(rh0:hi=none→ow=none)(b0:0≤l)(b1:l≤h)(b2:h≤(len:Int))(b3:len≤cap):(Instr.sliceBounds isS len cap E0 ow none).run P w=.ok (l.toNat,h.toNat,cap) w:=by
 have e1:∃y,(ow=none∧h=len)∨(ow=some y∧∃q,y=.int q h):=by
  rcases EZ hh with⟨rfl,rfl⟩|⟨q,rfl⟩
  ·simp_all
  ·obtain⟨y,rfl,hy⟩:=rh _ rfl;cases hy with
   |pv hy=>cases hy with
    |int hw=>simp
 have e2:∃y,(E0=none∧l=0)∨(E0=some y∧∃q,y=.int q l):=by
  rcases EZ hl with⟨rfl,rfl⟩|⟨q,rfl⟩
  ·simp_all
  ·obtain⟨y,rfl,hy⟩:=rl _ rfl;cases hy with
   |pv hy=>cases hy with
    |int hw=>simp
 clear rl rl0 rh rh0 hl hh;obtain⟨y,⟨rfl,rfl⟩|⟨rfl,q,rfl⟩⟩:=e1<;>obtain⟨z,⟨rfl,rfl⟩|⟨rfl,q',rfl⟩⟩:=e2
 ·rfl
 ·simp_all[run_sliceBound,Instr.sliceBounds]
 ·have:= @run_sliceBound P w q h cap (if isS then BoundsCode.sliceAcap else .sliceAlen) (by omega) (by omega);simp[Instr.sliceBounds,this]
 ·have h1:= @run_sliceBound P w q h cap (if isS then BoundsCode.sliceAcap else .sliceAlen) (by omega) (by omega);have h2:= @run_sliceBound P w q' l h.toNat BoundsCode.sliceB b0 (by omega);simp[Instr.sliceBounds,h1,h2]
theorem str_slice{s:Bytes}{l h:Nat}(hl:l≤h)(hh:h≤s.length):(⟨s.toArray⟩:ByteArray).extract l h=⟨((s.take h).drop l).toArray⟩:=by apply ByteArray.ext;simp[ByteArray.data_extract,alj,amq,List.drop_take]
theorem Wg{x:Value}{l h:Nat}(hx:ai P μ (.rs sz es) x)(hl:l≤h)(hh:h≤es.length):∃a cap,x=.slice a es.length cap∧es.length≤cap∧ai P μ (.rs sz ((es.take h).drop l)) (.slice (if cap=l then a else a.map (·.add (l*sz))) (h-l) (cap-l)):=by
 have hlen:((es.take h).drop l).length=h-l:=by simp;omega
 cases hx with
 |lk=>
  simp at hh;subst hh;have:l=0:=by omega
  subst this;exact⟨none,0,rfl,by simp,by simpa using ai.lk⟩
 | @G9 _ cap a hc=>
  simp at hh;subst hh;have:l=0:=by omega
  subst this;refine⟨some a,cap,rfl,by simp,?_⟩;have:(if cap=0 then some a else(some a).map (·.add (0*sz)))=some a:=by split<;>simp[Addr.add]
  rw[this];exact .G9 hc
 | @rs _ _ b o cap X h1 h2 h3 h4 h5 h6=>
  refine⟨_,cap,rfl,h1,?_⟩;have ec:∀(i:Nat)e,((es.take h).drop l)[i]?=some e→es[l+i]?=some e:=fun i e hi=>(eZ (rM hi)).2;by_cases hz:h=l
  ·have:(es.take h).drop l=[]:=ajB (by omega);rw[this];have Wh:h-l=0:=by omega
   rw[Wh];split
   ·exact .G9 (by omega)
   ·simp only[ah5];exact .G9 (by omega)
  ·have hc:cap≠l:=by omega
   rw[IN hc];simp only[ah5,Addr.add_mid];have:=ai.rs (P:=P) (μ:=μ) (sz:=sz) (es:=(es.take h).drop l) (b:=b) (o:=o+l*sz) (cap:=cap-l) (fun i j=>X (l+i) j) (by omega) (by omega) (fun i e hi=>h3 _ e (ec i e hi)) (fun i e j p hi hj=>by grind) (fun i e j p hi hj=>h5 _ e j p (ec i e hi) hj) (fun i e j p hi hj=>h6 _ e j p (ec i e hi) hj);simp_all
theorem vq{e:TypeId}{a:Option Addr}{len cap l h:Nat}(hu:P.underlying t=some (.slice e))(hz:aV P e≠0)(hb:(Instr.sliceBounds true len cap E0 ow none).run P w=.ok (l,h,cap) w):(Instr.sliceAt t (.slice a len cap) E0 ow none).run P w=.ok (.slice (if cap=l then a else a.map (·.add (l*aV P e))) (h-l) (cap-l)) w:=by simp_all[Instr.sliceAt,Instr.slice,run_underlying,jU]
theorem TV{lo hi mx:Option V}{k:V→bG→Option R}(h:vj E t x lo hi mx m k=some r):∃v ft,(∀m2:Mem,(∀x∈ft,m2 x.2=m x.2)→∀(R':Type)(k':V→bG→Option R'),vj E t x lo hi mx m2 k'=k' v ft)∧k v ft=some r∧(∀x∈ft,x.1=false)∧(∀id,v.has id=true→x.has id=true)∧∀(G:Nat→Option (List PV))(w0:bI)(μ:Ro)(φ:Nat→aH)(w:World)(y:Value)(E0 ow mx':Option Value),az E.P G w0 μ φ m w→ah E.P μ φ x y→(∀v,lo=some v→∃y,E0=some y∧ah E.P μ φ v y)→(lo=none→E0=none)→(∀v,hi=some v→∃y,ow=some y∧ah E.P μ φ v y)→(hi=none→ow=none)→(∀v,mx=some v→∃y,mx'=some y∧ah E.P μ φ v y)→(mx=none→mx'=none)→∃z,(Instr.sliceAt t y E0 ow mx').run E.P w=.ok z w∧ah E.P μ φ v z:=by
 unfold vj at h;split at h
 ·rename_i mv;split at h
  ·rename_i e id hu;split at h
   ·rename_i s et es hm;split at h
    ·rename_i qh hh qc c;split at h
     ·rename_i hb;refine⟨_,_,fun m2 c9 R' k'=>by have:=c9 (false,id) (by simp);simp_all[vj,BK],h,by simp,by simp[V.has],fun G w0 μ φ w y E0 ow mx' hM hy r1 r2 r3 r4 r5 r6=>?_⟩;have hA:=hM.arr (.inl hm);have hle:=hA.pz;obtain⟨a1,a2,a3,a4,a5,a6,a7⟩:=hA;obtain⟨ym,rfl,hym⟩:=r5 _ rfl;have hlo:=r2 rfl;subst hlo;cases hym with
      |pv hym=>cases hym with
       |int hwc=>
        have hB:∀len cap:Nat,len=es.length→c≤(cap:Int)→(Instr.sliceBounds true len cap none ow (some (.int qc c))).run E.P w=.ok (0,hh.toNat,c.toNat) w:=by
         intro len cap hlen qd;have h1:= @run_sliceBound E.P w qc c cap BoundsCode.slice3Acap (by omega) qd;obtain⟨yh,rfl,hyh⟩:=r3 _ rfl;cases hyh with
         |pv hyh=>cases hyh with
          |int hwh=>have h2:= @run_sliceBound E.P w qh hh c.toNat BoundsCode.slice3B (by omega) (by omega);simp[Instr.sliceBounds,h1,h2]
        have hS:∀(a:Option Addr)(len cap:Nat),len=es.length→c≤(cap:Int)→(Instr.sliceAt t (.slice a len cap) none ow (some (.int qc c))).run E.P w=.ok (.slice (if c.toNat=0 then a else a.map (·.add (0*aV E.P e))) hh.toNat c.toNat) w:=by intro a len cap hlen qd;simp[Instr.sliceAt,Instr.slice,run_underlying hu,hB len cap hlen qd,jU (show aV E.P e≠0 by omega)]
        cases hy with
        |s9 hg=>
         rw[hg]at a7;have h0:es.length=0:=by omega
         refine⟨_,hS none 0 0 h0.symm (by omega),?_⟩;have e1:hh.toNat=0:=by omega
         have e2:c.toNat=0:=by omega
         rw[e1,e2];exact .rJ hg
        | @os _ g hg=>
         refine⟨_,hS _ _ _ a1 (by omega),?_⟩;have:(if c.toNat=0 then some (⟨g,0,none⟩:Addr)else(some ⟨g,0,none⟩:Option Addr).map (·.add (0*aV E.P e)))=some ⟨g,0*(φ id).sz,none⟩:=by split<;>simp[Addr.add]
         rw[this];exact .fX hg (by omega) (.inl rfl) (by omega) (by omega)
     ·cases h
    ·cases h
   ·cases h
  ·cases h
 ·split at h
  ·rename_i s hu;split at h
   ·rename_i l hh hl Za;split at h
    ·rename_i hb;refine⟨_,_,fun m2 _ R' k'=>by simp_all[vj,BK],h,by simp,by simp,fun G w0 μ φ w y E0 ow mx' hM hy r1 r2 r3 r4 _ r6=>?_⟩;have hmx:=r6 rfl;subst hmx;cases hy with
     |pv hy=>cases hy with
      |str hlen=>have hB:=ml (P:=E.P) (w:=w) (isS:=false) (cap:=s.length) hl Za r1 r2 r3 r4 hb.1 hb.2.1 hb.2.2 (ajC _);refine⟨_,?_,.pv (.str (s:=(s.take hh.toNat).drop l.toNat) (by simp;omega))⟩;simp only[Instr.sliceAt,Instr.slice,Sem.run_bind,run_underlying hu,Result.andThen_ok,EX,hB];simp only[amh,By,abG,Sem.run_bind,Sem.run_pure,Result.andThen_ok,hB];rw[str_slice (by omega) (by omega)]
    ·cases h
   ·cases h
  ·rename_i e sz es hu;split at h
   ·rename_i l hh hl Za;split at h
    ·rename_i hb;refine⟨_,_,fun m2 _ R' k'=>by simp_all[vj,BK],h,by simp,by simp,fun G w0 μ φ w y E0 ow mx' hM hy r1 r2 r3 r4 _ r6=>?_⟩;have hmx:=r6 rfl;subst hmx;cases hy with
     |pv hy=>obtain⟨a,cap,rfl,hc,hr⟩:=Wg (l:=l.toNat) (h:=hh.toNat) hy (by omega) (by omega);have hB:=ml (P:=E.P) (w:=w) (isS:=true) (cap:=cap) hl Za r1 r2 r3 r4 hb.1 hb.2.1 hb.2.2.1 hc;exact⟨_,vq hu hb.2.2.2.2 hB,by rw[←hb.2.2.2.1];exact .pv hr⟩
    ·cases h
   ·cases h
  ·rename_i e id hu;have key:∀(s:Nat)(et:TypeId)(es:List PV)(l hh:Int),(m id=some (.arr s et es)∨m id=some (.ri s et es))→j5 0 lo=some l→j5 es.length hi=some hh→(0≤l∧l≤hh∧hh≤(es.length:Int)∧s=aV E.P e)→∀(G:Nat→Option (List PV))(w0:bI)(μ:Ro)(φ:Nat→aH)(w:World)(y:Value)(E0 ow:Option Value),az E.P G w0 μ φ m w→ah E.P μ φ (.os id) y→(∀v,lo=some v→∃y,E0=some y∧ah E.P μ φ v y)→(lo=none→E0=none)→(∀v,hi=some v→∃y,ow=some y∧ah E.P μ φ v y)→(hi=none→ow=none)→∃z,(Instr.sliceAt t y E0 ow none).run E.P w=.ok z w∧ah E.P μ φ (.fX id l.toNat (hh.toNat-l.toNat)) z:=by
    intro s et es l hh hm hl Za hb G w0 μ φ w y E0 ow hM hy r1 r2 r3 r4;have hA:=hM.arr hm;have hle:=hA.pz;obtain⟨a1,a2,a3,a4,a5,a6,a7⟩:=hA;cases hy with
    |s9 hg=>
     rw[hg]at a7;have h0:es.length=0:=by omega
     have hB:=ml (P:=E.P) (w:=w) (isS:=true) (cap:=0) hl Za r1 r2 r3 r4 hb.1 hb.2.1 hb.2.2.1 (by omega);rw[h0]at hB;refine⟨_,vq hu (by omega) hB,?_⟩;have e1:l.toNat=0:=by omega
     have e2:hh.toNat=0:=by omega
     rw[e1,e2];exact .rJ hg
    | @os _ g hg=>
     have hB:=ml (P:=E.P) (w:=w) (isS:=true) (cap:=(φ id).cap) hl Za r1 r2 r3 r4 hb.1 hb.2.1 hb.2.2.1 (by omega);rw[←a1]at hB;refine⟨_,vq hu (by omega) hB,?_⟩;by_cases hc:(φ id).cap=l.toNat
     ·rw[BK hc];by_cases h0:l.toNat=0
      ·rw[h0];exact .fX hg (by omega) (.inl (by simp)) (by omega) (by omega)
      ·exact .fX hg (by omega) (.inr ⟨hc,by omega⟩) (by omega) (by omega)
     ·rw[IN hc];simp only[ah5,Addr.add_mid,ako];refine .fX hg (by omega) (.inl ?_) (by omega) (by omega);rw[a2,hb.2.2.2]
   split at h
   ·rename_i s et es hm;split at h
    ·rename_i l hh hl Za;split at h
     ·rename_i hb;exact⟨_,_,fun m2 c9 R' k'=>by have:=c9 (false,id) (by simp);simp_all[vj,BK],h,by simp,by simp[V.has],fun G w0 μ φ w y E0 ow mx' hM hy r1 r2 r3 r4 _ r6=>by rw[r6 rfl];exact key s et es l hh (.inl hm) hl Za hb G w0 μ φ w y E0 ow hM hy r1 r2 r3 r4⟩
     ·cases h
    ·cases h
   ·rename_i s et es hm;split at h
    ·rename_i l hh hl Za;split at h
     ·rename_i hb;exact⟨_,_,fun m2 c9 R' k'=>by have:=c9 (false,id) (by simp);simp_all[vj,BK],h,by simp,by simp[V.has],fun G w0 μ φ w y E0 ow mx' hM hy r1 r2 r3 r4 _ r6=>by rw[r6 rfl];exact key s et es l hh (.inr hm) hl Za hb G w0 μ φ w y E0 ow hM hy r1 r2 r3 r4⟩
     ·cases h
    ·cases h
   ·cases h
  ·cases h
end
end Go.Ab
