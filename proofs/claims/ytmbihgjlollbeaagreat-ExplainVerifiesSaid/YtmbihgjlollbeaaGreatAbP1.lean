import Derived.Test.YtmbihgjlollbeaaGreatAbEval
import Derived.Below
import Derived.Laws.CopyRow
import Derived.Deep.MidRow
set_option linter.all false
namespace Go.Ab
open Go.RowKit (Below)
abbrev Ro:=Nat→Option Obj
def agG:Bool:=true
structure nD(B:Nat)(w w':World):Prop extends Below B w w' where
 drawn:agG=true→w.drawn≤w'.drawn
namespace nD
theorem refl(B:Nat)(w:World):nD B w w:=⟨Below.refl B w,fun _=>ast _⟩
theorem trans{B:Nat}{a b c:World}(h:nD B a b)(k:nD B b c):nD B a c:=⟨h.toBelow.trans k.toBelow,fun u=>asZ (h.drawn u) (k.drawn u)⟩
theorem mono{B B':Nat}{w w':World}(h:nD B w w')(hB:B'≤B):nD B' w w':=⟨h.toBelow.mono hB,h.drawn⟩
theorem drew{B:Nat}{a w:World}(h:nD B a w):nD B a w.drew:=⟨h.toBelow.drew,fun u=>auW (h.drawn u)⟩
theorem heap_alloc(w:World)(o:Obj)(k:Nat)(h:k<w.heap.size):(w.alloc o).heap[k]?=w.heap[k]?:=Below.heap_alloc w o k h
theorem alloc{B:Nat}{a w:World}(h:nD B a w)(hB:B≤w.heap.size)(o:Obj):nD B a (w.alloc o):=⟨h.toBelow.alloc hB o,h.drawn⟩
end nD
def Jmp.code:Jmp→Code
 |.ret=>.ret
 |.exit id=>.exit id
def TH.obj(rc:Loop):TH→Loop
 |.ready=>{rc with state:=.ready,pending:=none}
 |.busy=>{rc with state:=.busy,pending:=none}
 |.done j=>{rc with state:=.done,pending:=some j.code}
def cellAt(μ:Ro)(b o:Nat):Option Value:=match μ b with|some (.cells c _ _)=>c[o]?|_=>none
def GR(f:FuncId)(xs:Array Value):Value:=if f<KA then .func (.func f) #[] xs else .func (.func (f-KA)) xs #[]
variable{xs:Array Value}
theorem wb{f:FuncId}(h:Nat.blt f KA=true):GR f xs=.func (.func f) #[] xs:=IN (by rwa[atl]at h)
theorem Rf{f:FuncId}(h:Nat.blt f KA=false):GR f xs=.func (.func (f-KA)) xs #[]:=IS (by rw[←atj,atl]at h;omega)
theorem we(f:FuncId)(xs:Array Value):∃g a b,GR f xs=.func (.func g) a b:=by
 unfold GR;split
 ·simp
 simp
theorem NU(f:FuncId)(xs:Array Value):(GR f xs).oneCell'=true:=by obtain⟨g,a,b,h⟩:=we f xs;rw[h];rfl
inductive av(P:Program)(μ:Ro):PV→Value→Prop
 |int {k:IntKind} {n:Int}:(Lit.int k n).wf=true→av P μ (.int k n) (.int k n)
 |bool {b:Bool}:av P μ (.bool b) (.bool b)
 |str {s:Bytes}:s.length≤maxLen→av P μ (.str s) (.string ⟨s.toArray⟩)
 |agg {cs:List PV} {xs:Array Value}:cs.length=xs.size→(∀(i:Nat)p x,cs[i]?=some p→xs[i]?=some x→av P μ p x)→(∀(i:Nat)(x:Value),xs[i]?=some x→x.oneCell'=true)→av P μ (.agg cs) (.agg xs)
 |aG {cs:List PV} {xs:Array Value}:cs.length=xs.size→(∀(i:Nat)p x,cs[i]?=some p→xs[i]?=some x→av P μ p x)→av P μ (.aG cs) (.tuple xs)
 |vT:av P μ .vT (.pointer none)
 |rp {cs:List PV} {b o:Nat} (X:Nat→Value):(∀(i:Nat)p,cs[i]?=some p→cellAt μ b (o+i)=some (X i))→(∀(i:Nat)p,cs[i]?=some p→av P μ p (X i))→(∀i:Nat,i<cs.length→(X i).oneCell'=true)→av P μ (.rp cs) (.pointer (some ⟨b,o,none⟩))
 |ny {sz:Nat}:av P μ (.rs sz []) (.slice none 0 0)
 |Ni {sz cap:Nat} {a:Addr}:cap≤maxLen→av P μ (.rs sz []) (.slice (some a) 0 cap)
 |rs {sz:Nat} {es:List PV} {b o cap:Nat} (X:Nat→Nat→Value):es.length≤cap→cap≤maxLen→(∀(i:Nat)e,es[i]?=some e→e.cells.length=sz)→(∀(i:Nat)e(j:Nat)p,es[i]?=some e→e.cells[j]?=some p→cellAt μ b (o+i*sz+j)=some (X i j))→(∀(i:Nat)e(j:Nat)p,es[i]?=some e→e.cells[j]?=some p→av P μ p (X i j))→(∀(i:Nat)e(j:Nat)p,es[i]?=some e→e.cells[j]?=some p→(X i j).oneCell'=true)→av P μ (.rs sz es) (.slice (some ⟨b,o,none⟩) es.length cap)
 |A3:av P μ .A3 (.map none)
 |rm {kt:TypeId} {ks vs:List PV} {b clock:Nat} {en:Array MapEntry} {kk:List Kd}:μ b=some (.map en clock)→en.size=ks.length→vs.length=ks.length→yy P kt=some kk→(∀(i:Nat)k,ks[i]?=some k→B0 P kt kk k=true)→(∀(i:Nat)k e,ks[i]?=some k→en[i]?=some e→av P μ k e.key)→(∀(i:Nat)v e,vs[i]?=some v→en[i]?=some e→av P μ v e.val)→av P μ (.rm kt ks vs) (.map (some b))
 |JW:av P μ .JW .nilFunc
 |fn {f:FuncId} {cs:List PV} {xs:Array Value}:cs.length=xs.size→(∀(i:Nat)p x,cs[i]?=some p→xs[i]?=some x→av P μ p x)→av P μ (.fn f cs) (GR f xs)
 |ab3:av P μ (.ifc false) .nilIface
 |agH {t:TypeId} {x:Value}:av P μ (.ifc true) (.iface t x)
 |bad {x:Value}:av P μ .bad x
structure E2(P:Program)(μ:Ro)(g:Nat)(cs:List PV):Prop where
 rep:av P μ (.rp cs) (.pointer (some ⟨g,0,none⟩))
 size:∃c T z,μ g=some (.cells c T z)∧c.size=cs.length
structure Jk where
 g:Option Nat
 cap:Nat
 len:Nat
 sz:Nat
 deriving Inhabited
structure aP extends Jk where
 row:Nat→Nat→Jk:=fun _ _=>default
 deriving Inhabited
abbrev JY(g:Option Nat)(cap len sz:Nat):aP:={g,cap,len,sz}
def Jk.up(p:Jk):aP:={toJk:=p}
inductive au(P:Program)(μ:Ro)(φ:Nat→aP):V→Value→Prop
 |pv {p:PV} {x:Value}:av P μ p x→au P μ φ (.pv p) x
 |jC:au P μ φ .jC (.slice none 0 0)
 |op {id off g:Nat}:(φ id).g=some g→au P μ φ (.op id off) (.pointer (some ⟨g,off,none⟩))
 |oe {id i off g:Nat}:(φ id).g=some g→au P μ φ (.oe id i off) (.pointer (some ⟨g,i*(φ id).sz+off,none⟩))
 |yp {id:Nat}:(φ id).g=none→au P μ φ (.os id) (.slice none 0 0)
 |os {id g:Nat}:(φ id).g=some g→au P μ φ (.os id) (.slice (some ⟨g,0,none⟩) (φ id).len (φ id).cap)
 |wa {id:Nat}:(φ id).g=none→au P μ φ (.gx id 0 0) (.slice none 0 0)
 |gx {id lo len cap g:Nat} {a:Addr}:(φ id).g=some g→lo+len≤(φ id).len→(a=⟨g,lo*(φ id).sz,none⟩∨((φ id).cap=lo∧0<lo))→len≤cap→lo+cap≤(φ id).cap→au P μ φ (.gx id lo len) (.slice (some a) len cap)
 |Pt {id i off:Nat}:((φ id).row i off).g=none→au P μ φ (.CC id i off) (.slice none 0 0)
 |CC {id i off g:Nat}:((φ id).row i off).g=some g→au P μ φ (.CC id i off) (.slice (some ⟨g,0,none⟩) ((φ id).row i off).len ((φ id).row i off).cap)
 |GI {id i off s j off2 g:Nat}:((φ id).row i off).g=some g→((φ id).row i off).sz=s→au P μ φ (.GI id i off s j off2) (.pointer (some ⟨g,j*s+off2,none⟩))
 |om {id g:Nat}:(φ id).g=some g→au P μ φ (.om id) (.map (some g))
 |yl {id g:Nat}:(φ id).g=some g→au P μ φ (.yl id) (.func (.yield g) #[] #[])
 |it {id g:Nat}:(φ id).g=some g→au P μ φ (.it id) (.pointer (some ⟨g,0,none⟩))
 |fn {f:FuncId} {cs:List V} {xs:Array Value}:cs.length=xs.size→(∀(i:Nat)p x,cs[i]?=some p→xs[i]?=some x→au P μ φ p x)→au P μ φ (.fn f cs) (GR f xs)
 |agg {cs:List V} {xs:Array Value}:cs.length=xs.size→(∀(i:Nat)p x,cs[i]?=some p→xs[i]?=some x→au P μ φ p x)→(∀(i:Nat)(x:Value),xs[i]?=some x→x.oneCell'=true)→au P μ φ (.agg cs) (.agg xs)
 |aG {cs:List V} {xs:Array Value}:cs.length=xs.size→(∀(i:Nat)p x,cs[i]?=some p→xs[i]?=some x→au P μ φ p x)→au P μ φ (.aG cs) (.tuple xs)
 |top {x:Value}:au P μ φ .top x
def aX(P:Program)(μ:Ro)(φ:Nat→aP)(w:World)(id sz:Nat)(et:TypeId)(es:List PV):Prop:=
 (φ id).len=es.length∧(φ id).sz=sz∧sz=bj P et∧0<sz∧(∀(i:Nat)e,es[i]?=some e→e.cells.length=sz)∧(φ id).cap≤maxLen∧
 match(φ id).g with
 |none=>es=[]∧(φ id).cap=0
 |some g=>∃(c:Array Value)(T:TypeId),w.heap[g]?=some (.cells c T (0,0))∧(φ id).cap*sz≤c.size∧es.length≤(φ id).cap∧(∀(i:Nat)e(j:Nat)p x,es[i]?=some e→e.cells[j]?=some p→c[i*sz+j]?=some x→av P μ p x)∧(∀(i:Nat)(x:Value),i<es.length*sz→c[i]?=some x→x.oneCell'=true)
def bX.rowAt:bX→Nat→Nat→Bool
 |.nest _ _ es,i,off=>match es[i]? with
  |some e=>match e.cells[off]? with
   |some p=>p.isRow
   |none=>false
  |none=>false
 |.fU _ _ es,i,0=>match es[i]? with
  |some x=>x.2.isRow
  |none=>false
 |_,_,_=>false
def fm(P:Program)(μ:Ro)(R:Jk)(w:World)(s:Nat)(rs:List PV)(x:Value):Prop:=(∃et,aX P μ (fun _=>R.up) w 0 s et rs)∧au P μ (fun _=>R.up) (.os 0) x
def eH(P:Program)(μ:Ro)(R:Jk)(w:World)(p:PV)(x:Value):Prop:=match p with
 |.uY s rs=>fm P μ R w s rs x
 |p=>av P μ p x
def bu(P:Program)(μ:Ro)(φ:Nat→aP)(w:World)(id sz:Nat)(et:TypeId)(es:List PV):Prop:=
 (φ id).len=es.length∧(φ id).sz=sz∧sz=bj P et∧0<sz∧(∀(i:Nat)e,es[i]?=some e→e.cells.length=sz)∧(φ id).cap≤maxLen∧
 match(φ id).g with
 |none=>es=[]∧(φ id).cap=0
 |some g=>∃(c:Array Value)(T:TypeId),w.heap[g]?=some (.cells c T (0,0))∧(φ id).cap*sz≤c.size∧es.length≤(φ id).cap∧(∀(i:Nat)e(j:Nat)p x,es[i]?=some e→e.cells[j]?=some p→c[i*sz+j]?=some x→eH P μ ((φ id).row i j) w p x)∧(∀(i:Nat)(x:Value),i<es.length*sz→c[i]?=some x→x.oneCell'=true)
def oG(en:Array MapEntry)(clock:Nat):Prop:=∀(i:Nat)e,en[i]?=some e→e.born<clock∧∀(j:Nat)e',en[j]?=some e'→e'.born=e.born→j=i
def nP(en:Array MapEntry)(seen:Array Nat):List MapEntry:=en.toList.filter fun e=> !seen.contains e.born
def iK(P:Program)(μ:Ro)(φ:Nat→aP)(w:World)(id:Nat):bX→Prop
 |.box cs=>∃(g:Nat)(c:Array Value)(T:TypeId),(φ id).g=some g∧w.heap[g]?=some (.cells c T (0,0))∧c.size=cs.length∧(∀(i:Nat)v x,cs[i]?=some v→c[i]?=some x→au P μ φ v x)∧(∀(i:Nat)(x:Value),c[i]?=some x→x.oneCell'=true)∧(φ id).len=cs.length
 |.arr sz et es=>aX P μ φ w id sz et es
 |.vK sz et es=>aX P μ φ w id sz et es∧∀g,(φ id).g=some g→(μ g).isSome
 |.map kt es=>∃(g:Nat)(en:Array MapEntry)(clock:Nat)(kk:List Kd),(φ id).g=some g∧w.heap[g]?=some (.map en clock)∧en.size=es.length∧yy P kt=some kk∧(∀(i:Nat)k v,es[i]?=some (k,v)→B0 P kt kk k=true)∧oG en clock∧(∀(i:Nat)k v e,es[i]?=some (k,v)→en[i]?=some e→av P μ k e.key∧av P μ v e.val)
 |.nest sz et es=>bu P μ φ w id sz et es
 |.fU kt e0 es=>∃(g:Nat)(en:Array MapEntry)(clock:Nat)(kk:List Kd),(φ id).g=some g∧w.heap[g]?=some (.map en clock)∧en.size=es.length∧yy P kt=some kk∧(∀(i:Nat)k v,es[i]?=some (k,v)→B0 P kt kk k=true)∧oG en clock∧(∀(i:Nat)k v e,es[i]?=some (k,v)→en[i]?=some e→av P μ k e.key∧(match v with
  |.uY s rs=>aX P μ (fun _=>((φ id).row i 0).up) w 0 s e0 rs∧au P μ (fun _=>((φ id).row i 0).up) (.os 0) e.val
  |v=>av P μ v e.val))
 |.iter t es cur=>∃(g mg:Nat)(en:Array MapEntry)(clock:Nat)(seen:Array Nat),(φ id).g=some g∧w.heap[g]?=some (.mapIter (some mg) clock seen clock)∧μ mg=some (.map en clock)∧oG en clock∧(nP en seen).length=es.length∧(∀(i:Nat)k v e,es[i]?=some (k,v)→(nP en seen)[i]?=some e→av P μ k e.key∧av P μ v e.val)∧∀k v,cur=some (k,v)→∃(i:Nat)(e:MapEntry),en[i]?=some e∧seen.back? =some e.born∧av P μ k e.key∧av P μ v e.val
 |.loop st=>∃(g:Nat)(rc:Loop),(φ id).g=some g∧w.heap[g]?=some (.loop (st.obj rc))
def bX.lL:bX→Bool
 |.vK .. =>false
 |_=>true
structure bO where
 w:World
 mu:Ro
 sv:Nat→Value
 dY:Ro:=fun _=>none
 py:Ro:=fun _=>none
 rc:Nat→Option (Nat×Loop):=fun _=>none
abbrev bO.heap(B:bO):Array Obj:=B.w.heap
def bX.owns(b:bX)(p:aP)(g:Nat):Prop:=p.g=some g∨∃i off,b.rowAt i off=true∧(p.row i off).g=some g
def bX.apart(b:bX)(p:aP):Prop:=∀i off g,b.rowAt i off=true→(p.row i off).g=some g→p.g≠some g∧∀i' Ba,b.rowAt i' Ba=true→(p.row i' Ba).g=some g→i'=i∧Ba=off
structure aL(P:Program)(G:Nat→Option (List PV))(w0:bO)(μ:Ro)(φ:Nat→aP)(m:Mem)(w:World):Prop where
 below:nD w0.heap.size w0.w w
 ro:∀b o,μ b=some o→w.heap[b]?=some o
 aW:∀g cs,G g=some cs→E2 P μ g cs
 dX:∀id b,m id=some b→iK P μ φ w id b
 own:∀id b g,m id=some b→b.owns (φ id) g→w0.heap.size≤g∧(b.lL=true→μ g=none)
 inj:∀id1 id2 b1 b2 g,m id1=some b1→m id2=some b2→b1.owns (φ id1) g→b2.owns (φ id2) g→id1=id2
 apart:∀id b,m id=some b→b.apart (φ id)
 gz:∀j cs id,m j=some (.box cs)→cA id cs=true→(m id).isSome=true
 base:∀b o,μ b=some o→b<w0.heap.size→w0.mu b=some o
 dY:∀b o,w0.dY b=some o→μ b=some o
 Jj:∀id st,m id=some (.loop st)→∃g rc,(φ id).g=some g∧w0.rc id=some (g,rc)∧w.heap[g]?=some (.loop (st.obj rc))
def cj(nt:Nat)(w0:bO)(a:Act):Nat→Value:=fun t=>if t<nt then a.tmps.getD t undef else w0.sv t
theorem vZ{nt:Nat}{w0:bO}{a:Act}{t:Nat}(h:t<nt):cj nt w0 a t=a.tmps.getD t undef:=IN h
def Marks(B:Nat)(py μ:Ro)(ds:List Deferred):Prop:=∃Ds:List Nat,ds=Ds.map (fun D=>{target:=.collected D,args:= #[]})∧Ds.Nodup∧∀D∈Ds,B≤D∧py D=none∧μ D=some (.deferred (some []))
theorem Marks.nil(B:Nat)(py μ:Ro):Marks B py μ []:=⟨[],rfl,.nil,by simp⟩
theorem Marks.mono{B:Nat}{py μ μ':Ro}(h:∀b o,μ b=some o→μ' b=some o){ds:List Deferred}:Marks B py μ ds→Marks B py μ' ds
 |⟨Ds,e,hn,hD⟩=>⟨Ds,e,hn,fun D hd=>⟨(hD D hd).1,(hD D hd).2.1,h _ _ (hD D hd).2.2⟩⟩
structure Rel(P:Program)(G:Nat→Option (List PV))(nt:Nat)(w0:bO)(μ:Ro)(φ:Nat→aP)(f:Fr)(m:Mem)(a:Act)(w:World):Prop extends aL P G w0 μ φ m w where
 size:a.tmps.size=nt
 defers:Marks w0.heap.size w0.py μ a.defers
 py:∀b o,w0.py b=some o→w0.dY b=some o
 fr:∀t,au P μ φ (f t) (cj nt w0 a t)
 live:∀t id,(f t).has id=true→(m id).isSome=true
section
variable {P:Program} {μ μ':Ro} {φ φ':Nat→aP}
variable{x:Value}
theorem Jl(h:∀b o,μ b=some o→μ' b=some o){b o:Nat}(hx:cellAt μ b o=some x):cellAt μ' b o=some x:=by grind [cellAt]
variable{p:PV}
theorem av.mono(h:∀b o,μ b=some o→μ' b=some o)(hp:av P μ p x):av P μ' p x:=by
 induction hp with
 |int h=>exact .int h
 |bool=>exact .bool
 |str h=>exact .str h
 |agg h1 _ h3 ih=>exact .agg h1 ih h3
 |aG h1 _ ih=>exact .aG h1 ih
 |vT=>exact .vT
 |rp X h1 _ h3 ih=>exact .rp X (fun i p hi=>Jl h (h1 i p hi)) ih h3
 |ny=>exact .ny
 |Ni h=>exact .Ni h
 |rs X h1 h2 h3 h4 _ h6 ih=>exact .rs X h1 h2 h3 (fun i e j p hi hj=>Jl h (h4 i e j p hi hj)) ih h6
 |A3=>exact .A3
 |rm h1 h2 h3 h4 h5 _ _ ih1 ih2=>exact .rm (h _ _ h1) h2 h3 h4 h5 ih1 ih2
 |JW=>exact .JW
 |fn h1 _ ih=>exact .fn h1 ih
 |ab3=>exact .ab3
 |agH=>exact .agH
 |bad=>exact .bad
theorem E2.mono(h:∀b o,μ b=some o→μ' b=some o){g:Nat}{cs:List PV}(hv:E2 P μ g cs):E2 P μ' g cs:=⟨hv.rep.mono h,let⟨c,T,z,h1,h2⟩:=hv.size;⟨c,T,z,h _ _ h1,h2⟩⟩
theorem bZ{id:Nat}{v:V}:∀{cs:List V},v∈cs→v.has id=true→cA id cs=true
 |c::r,hm,hv=>by
  rcases asm.1 hm with rfl|hm
  ·simp[cA,hv]
  ·simp[cA,bZ hm hv]
theorem cW{id:Nat}:∀{cs:List V},cA id cs=true↔∃v∈cs,v.has id=true
 |[]=>by simp[cA]
 |c::r=>by simp[cA,cW (cs:=r)]
theorem Ep{id:Nat}{v:V}:∀{cs:List V},v∈cs→v.CD id=true→GJ id cs=true
 |c::r,hm,hv=>by
  rcases asm.1 hm with rfl|hm
  ·simp[GJ,hv]
  ·simp[GJ,Ep hm hv]
theorem au.mono(h:∀b o,μ b=some o→μ' b=some o){v:V}{x:Value}(hv:au P μ φ v x)(hφ:∀id,v.has id=true→φ' id=φ id):au P μ' φ' v x:=by
 induction hv with
 |pv hp=>exact .pv (hp.mono h)
 |jC=>exact .jC
 |op hg=>exact .op (by simp_all[V.has])
 | @oe id i off g hg=>have e:=hφ id (by simp[V.has]);have:=au.oe (P:=P) (μ:=μ') (φ:=φ') (id:=id) (i:=i) (off:=off) (g:=g) (by rw[e];omega);simp_all
 | @yp id hg=>exact .yp (by rw[hφ id (by simp[V.has])];omega)
 | @os id g hg=>have e:=hφ id (by simp[V.has]);have:=au.os (P:=P) (μ:=μ') (φ:=φ') (id:=id) (g:=g) (by rw[e];omega);simp_all
 | @wa id hg=>exact .wa (by rw[hφ id (by simp[V.has])];omega)
 | @gx id lo len cap g a hg hl ha hc hc'=>have e:=hφ id (by simp[V.has]);exact au.gx (P:=P) (μ:=μ') (φ:=φ') (id:=id) (lo:=lo) (len:=len) (cap:=cap) (g:=g) (a:=a) (by rw[e];omega) (by rw[e];omega) (by rw[e];omega) hc (by rw[e];omega)
 | @Pt id i off hg=>exact .Pt (by rw[hφ id (by simp[V.has])];omega)
 | @CC id i off g hg=>have e:=hφ id (by simp[V.has]);have:=au.CC (P:=P) (μ:=μ') (φ:=φ') (id:=id) (i:=i) (off:=off) (g:=g) (by rw[e];omega);simp_all
 | @GI id i off s j off2 g hg hs=>have e:=hφ id (by simp[V.has]);exact .GI (by rw[e];omega) (by rw[e];omega)
 | @om id g hg=>exact .om (by rw[hφ id (by simp[V.has])];omega)
 | @yl id g hg=>exact .yl (by rw[hφ id (by simp[V.has])];omega)
 | @it id g hg=>exact .it (by rw[hφ id (by simp[V.has])];omega)
 |fn h1 _ ih=>exact .fn h1 (fun i p x hi hx=>ih i p x hi hx (fun id hid=>hφ id (by simp only[V.has];exact bZ (aqY hi) hid)))
 |agg h1 _ h3 ih=>exact .agg h1 (fun i p x hi hx=>ih i p x hi hx (fun id hid=>hφ id (by simp only[V.has];exact bZ (aqY hi) hid))) h3
 |aG h1 _ ih=>exact .aG h1 (fun i p x hi hx=>ih i p x hi hx (fun id hid=>hφ id (by simp only[V.has];exact bZ (aqY hi) hid)))
 |top=>exact .top
variable{v:V}
theorem au.aii(h:∀b o,μ b=some o→μ' b=some o)(hv:au P μ φ v x)(hφ:∀id,v.has id=true→(φ' id).toJk=(φ id).toJk∧(v.CD id=true→φ' id=φ id)):au P μ' φ' v x:=by
 induction hv with
 |pv hp=>exact .pv (hp.mono h)
 |jC=>exact .jC
 |op hg=>exact .op (by simp_all[V.has])
 | @oe id i off g hg=>have e:=(hφ id (by simp[V.has])).1;have:=au.oe (P:=P) (μ:=μ') (φ:=φ') (id:=id) (i:=i) (off:=off) (g:=g) (by rw[e];omega);simp_all
 | @yp id hg=>exact .yp (by rw[(hφ id (by simp[V.has])).1];omega)
 | @os id g hg=>have e:=(hφ id (by simp[V.has])).1;have:=au.os (P:=P) (μ:=μ') (φ:=φ') (id:=id) (g:=g) (by rw[e];omega);simp_all
 | @wa id hg=>exact .wa (by rw[(hφ id (by simp[V.has])).1];omega)
 | @gx id lo len cap g a hg hl ha hc hc'=>have e:=(hφ id (by simp[V.has])).1;exact au.gx (P:=P) (μ:=μ') (φ:=φ') (id:=id) (lo:=lo) (len:=len) (cap:=cap) (g:=g) (a:=a) (by rw[e];omega) (by rw[e];omega) (by rw[e];omega) hc (by rw[e];omega)
 | @Pt id i off hg=>exact .Pt (by rw[(hφ id (by simp[V.has])).2 (by simp[V.CD])];omega)
 | @CC id i off g hg=>have e:=(hφ id (by simp[V.has])).2 (by simp[V.CD]);have:=au.CC (P:=P) (μ:=μ') (φ:=φ') (id:=id) (i:=i) (off:=off) (g:=g) (by rw[e];omega);simp_all
 | @GI id i off s j off2 g hg hs=>have e:=(hφ id (by simp[V.has])).2 (by simp[V.CD]);exact .GI (by rw[e];omega) (by rw[e];omega)
 | @om id g hg=>exact .om (by rw[(hφ id (by simp[V.has])).1];omega)
 | @yl id g hg=>exact .yl (by rw[(hφ id (by simp[V.has])).1];omega)
 | @it id g hg=>exact .it (by rw[(hφ id (by simp[V.has])).1];omega)
 |fn h1 _ ih=>exact .fn h1 (fun i p x hi hx=>ih i p x hi hx (fun id hid=>⟨(hφ id (by simp only[V.has];exact bZ (aqY hi) hid)).1,fun h2=>(hφ id (by simp only[V.has];exact bZ (aqY hi) hid)).2 (by simp only[V.CD];exact Ep (aqY hi) h2)⟩))
 |agg h1 _ h3 ih=>exact .agg h1 (fun i p x hi hx=>ih i p x hi hx (fun id hid=>⟨(hφ id (by simp only[V.has];exact bZ (aqY hi) hid)).1,fun h2=>(hφ id (by simp only[V.has];exact bZ (aqY hi) hid)).2 (by simp only[V.CD];exact Ep (aqY hi) h2)⟩)) h3
 |aG h1 _ ih=>exact .aG h1 (fun i p x hi hx=>ih i p x hi hx (fun id hid=>⟨(hφ id (by simp only[V.has];exact bZ (aqY hi) hid)).1,fun h2=>(hφ id (by simp only[V.has];exact bZ (aqY hi) hid)).2 (by simp only[V.CD];exact Ep (aqY hi) h2)⟩))
 |top=>exact .top
theorem au.E3(h:∀b o,μ b=some o→μ' b=some o)(hv:au P μ φ v x):au P μ' φ v x:=hv.mono h fun _ _=>rfl
theorem au.kill(id:Nat)(hv:au P μ φ v x):au P μ φ (yz id v) x:=by
 unfold yz;cases v.has id<;>simp
 ·omega
 ·exact .top
theorem au.E4(id:Nat)(hv:au P μ φ v x):au P μ φ (rU id v) x:=by
 unfold rU;cases v.CD id<;>simp
 ·omega
 ·exact .top
theorem Er{id j:Nat}(h:(rU id v).has j=true):v.has j=true∧(rU id v).CD id=false:=by grind [rU,id,V.has]
theorem eH.pure{R:Jk}{w:World}(h:av P μ p x):eH P μ R w p x:=by
 unfold eH;split
 ·cases h
 omega
theorem eH.Wh{R:Jk}{w:World}(h:eH P μ R w p x)(hp:p.isRow=false):av P μ p x:=by
 unfold eH at h;split at h
 ·cases hp
 omega
theorem av.Ki(h:av P μ p x):p.isRow=false:=by cases h<;>rfl
theorem CL{id j:Nat}(h:(yz id v).has j=true):v.has j=true∧j≠id:=by grind [yz,id,V.has]
end
section
variable {P:Program} {G:Nat→Option (List PV)} {w0:bO} {μ:Ro} {φ:Nat→aP} {f:Fr} {m:Mem} {w:World}
@[simp] theorem apN(p:PV)(id:Nat):(V.pv p).has id=false:=by rfl
@[simp] theorem apK(id:Nat):V.top.has id=false:=by rfl
@[simp] theorem amE(id:Nat):V.jC.has id=false:=by rfl
theorem Wi(cs:List PV)(id:Nat):cA id (cs.map .pv)=false:=by
 induction cs with
 |nil=>rfl
 |cons c r ih=>simp[cA,ih]
theorem sC(k:IntKind)(n:Int):(Lit.int k n).wf=true↔k.min≤n∧n≤k.max:=by simp[Lit.wf]
theorem wf_wrap(k:IntKind)(n:Int):(Lit.int k (k.wrap n)).wf=true:=by rw[sC];cases k<;>simp only[IntKind.wrap,IntKind.min,IntKind.max,IntKind.signed,IntKind.bits]<;>simp<;>(try split)<;>omega
theorem av.one{p:PV}{x:Value}(h:av P μ p x)(h1:∀cs,p≠.agg cs)(h2:∀cs,p≠.aG cs)(h3:p≠.bad):x.oneCell'=true:=by cases h<;>first|rfl|exact NU _ _|exact absurd rfl (h1 _)|exact absurd rfl (h2 _)|exact absurd rfl h3
theorem KS(c:Value):au P μ φ (HW c) c:=by
 unfold HW;split
 ·split
  ·exact .pv (.int (by omega))
  ·exact .top
 ·exact .pv .bool
 ·rename_i s;split
  ·exact .pv (.str (by omega))
  ·exact .top
 ·exact .pv .vT
 ·exact .jC
 ·exact .pv .A3
 ·exact .pv .JW
 ·exact .pv .ab3
 ·exact .top
theorem KT(c:Value)(id:Nat):(HW c).has id=false:=by unfold HW;split<;>(try split)<;>simp
theorem NV(c:Value)(id:Nat):(NK c).has id=false:=by
 unfold NK;split
 ·rename_i cs;split
  ·simp only[V.has];rw[Bool.eq_false_iff];intro h;obtain⟨v,hv,hh⟩:=cW.1 h;obtain⟨x,_,rfl⟩:=asC.1 hv;rw[KT]at hh;cases hh
  rfl
 ·exact KT _ _
theorem Ar(c:Value):au P μ φ (NK c) c:=by
 unfold NK;split
 ·rename_i cs;split
  ·rename_i hc;refine .agg (by simp) (fun i p x hi hx=>?_) (fun i x hx=>?_)
   ·grind [Option.some.injEq,KS]
   ·rw[asV]at hc;have:=hc x (by grind);cases x<;>first|rfl|(simp at this)
  ·exact .top
 ·exact KS _
end
section
variable {R:Type} {E:Env} {w0:bO} {μ:Ro} {φ:Nat→aP} {f:Fr} {m:Mem} {a:Act} {w:World}
theorem aA(h:Rel E.P E.aW E.fn.ntmps w0 μ φ f m a w)(x:Operand):au E.P μ φ (bR E f x) (a.eval x)∧∀id,(bR E f x).has id=true→(m id).isSome=true:=by
 cases x with
 |tmp t=>
  simp only[bR];cases e:Nat.blt t E.fn.ntmps with
  |true=>
   have cd:t<E.fn.ntmps:=by rwa[atl]at e
   have:=h.fr t;rw[vZ cd]at this;exact⟨this,h.live t⟩
  |false=>exact⟨.top,fun id hid=>by cases hid⟩
 |const c=>exact⟨Ar c,fun id hid=>by simp_all[bR,NV]⟩
 |global g=>
  simp only[bR];cases hg:E.aW g with
  |none=>exact⟨.top,by simp⟩
  |some cs=>exact⟨.pv (h.aW g cs hg).rep,by simp⟩
 |func g=>
  simp only[bR];cases e:Nat.blt g KA with
  |true=>refine⟨?_,by simp[V.has,cA]⟩;have:=au.fn (P:=E.P) (μ:=μ) (φ:=φ) (f:=g) (cs:=[]) (xs:= #[]) (by simp) (by simp);rw[wb e]at this;exact this
  |false=>exact⟨.top,by simp⟩
variable{p:PV}
theorem sB{sz j:Nat}{q:PV}(h:(aQ sz p)[j]?=some q):j<sz∧q=cell p j:=by
 unfold aQ at h;have key:∀(n o j:Nat),(er p o n)[j]?=some q→j<n∧q=cell p (o+j):=by
  intro n;induction n with
  |zero=>intro o j hj;simp[er]at hj
  |succ n ih=>
   intro o j hj;cases j with
   |zero=>simp_all[er]
   |succ j=>simp only[er,atQ]at hj;grind
 grind
theorem bt(sz:Nat)(p:PV):(aQ sz p).length=sz:=by
 unfold aQ;have:∀n o,(er p o n).length=n:=by
  intro n;induction n with
  |zero=>intro o;rfl
  |succ n ih=>intro o;simp[er,ih]
 exact this _ _
theorem fa{sz:Nat}(h:p.cells.length=sz):aQ sz p=p.cells:=by
 apply asB;intro j;by_cases hj:j<sz
 ·have h1:j<(aQ sz p).length:=by rw[bt];omega
  have h2:=sB (cN h1);rw[cN h1,h2.2,cell,at0,cN (by omega)];rfl
 simp_all[atG,bt]
theorem av.E5{P:Program}{μ:Ro}{n:Nat}{cs:List PV}{x:Value}(h:av P μ (.agg cs) x)(hn:cs.length=n):av P μ (.agg (aQ n (.agg cs))) x:=by simp_all[fa,PV.cells]
variable{t:TypeId}{k:PV→Option R}
theorem nZ{r:R}(h:jE E t p k=some r):∃q,(∀(R':Type)(k':PV→Option R'),jE E t p k'=k' q)∧k q=some r∧(∀(P:Program)(μ:Ro)x,av P μ p x→av P μ q x)∧q≠.bad∧(∀cs,q≠.aG cs)∧(aN E.P t=false→∀cs,q≠.agg cs):=by
 unfold jE at h;split at h
 ·rename_i q hu;obtain⟨n,hn,hk⟩:=By.1 h;have hp:p=.int q n:=by cases p<;>simp[asInt]at hn;simp_all
  grind [jE]
 ·rename_i hu;obtain⟨n,hn,hk⟩:=By.1 h;have hp:p=.bool n:=by cases p<;>simp[asBool]at hn;subst hn;rfl
  grind [jE]
 ·rename_i hu;obtain⟨n,hn,hk⟩:=By.1 h;have hp:p=.str n:=by cases p<;>simp[aO]at hn;subst hn;rfl
  grind [jE]
 ·rename_i e hu;obtain⟨es,hn,hk⟩:=By.1 h;refine⟨.rs (bj E.P e) es,fun R' k'=>by simp[jE,hu,hn],hk,fun P μ x hx=>?_,by simp,by simp,by simp⟩;cases p<;>simp[ao]at hn;split at hn
  ·simp_all
  ·split at hn
   ·simp only[cO]at hn;subst hn;cases hx with
    |ny=>exact .ny
    |Ni h=>exact .Ni h
    |rs X h1 h2 _ _ _ _=>exact .Ni h2
   ·cases hn
 ·rename_i fs hu;obtain⟨u,hn,hk⟩:=By.1 h;refine⟨_,fun R' k'=>by simp[jE,hu,hn],hk,fun P μ x hx=>?_,by simp,by simp,by simp[aN,hu]⟩;cases p<;>simp[asAgg]at hn;exact hx.E5 hn
 ·rename_i n e hu;obtain⟨u,hn,hk⟩:=By.1 h;refine⟨_,fun R' k'=>by simp[jE,hu,hn],hk,fun P μ x hx=>?_,by simp,by simp,by simp[aN,hu]⟩;cases p<;>simp[asAgg]at hn;exact hx.E5 hn
 ·grind [jE]
 ·rename_i kt et hu;unfold da at h;grind [jE,da]
 ·grind [jE]
 ·rename_i ms hu;obtain⟨n,hn,hk⟩:=By.1 h;have hp:p=.ifc n:=by cases p<;>simp[Wc]at hn;subst hn;rfl
  grind [jE]
 ·cases h
theorem Rg{v:V}{k:V→Option R}{r:R}(h:GK E t v k=some r):∃u,(∀(R':Type)(k':V→Option R'),GK E t v k'=k' u)∧k u=some r∧(∀(P:Program)(μ:Ro)(φ:Nat→aP)x,au P μ φ v x→au P μ φ u x)∧(∀id,u.has id=true→v.has id=true):=by
 unfold GK at h;split at h
 ·obtain⟨q,h1,h2,h3,_⟩:=nZ h;exact⟨.pv q,fun R' k'=>by simp[GK,h1],h2,fun P μ φ x hx=>by cases hx with|pv hp=>exact .pv (h3 _ _ _ hp),by simp⟩
 ·cases h
 ·rename_i h1 h2;split at h
  ·rename_i hu;refine⟨v,fun R' k'=>?_,h,fun _ _ _ _ hx=>hx,fun _ h=>h⟩;unfold GK;simp_all
  ·cases h
theorem CM{r:R}(h:jE E t p k=some r):∃d,E.P.underlying t=some d:=by unfold jE at h;grind
theorem NW{v:V}{k:V→Option R}{r:R}(h:GK E t v k=some r):∃d,E.P.underlying t=some d:=by
 unfold GK at h;split at h
 ·exact CM h
 ·cases h
 ·split at h
  ·rename_i hu;exact asA.1 hu
  ·cases h
end
section
variable {P:Program} {G:Nat→Option (List PV)} {w0:bO} {μ:Ro} {φ:Nat→aP} {m:Mem} {w:World}
variable{t:TypeId}{d:TypeDesc}
theorem Jm(h:P.underlying t=some d):(P.info? t).map (·.size)=some (bj P t):=by grind [Program.underlying,bj]
theorem KU(h:aN P t=true):∃d,P.underlying t=some d∧d.isRow=true:=by unfold aN at h;grind
theorem Ia(hu:P.underlying t=some d):(isAgg t).run P w=.ok (aN P t) w:=by unfold isAgg;simp only[Sem.run_bind,run_underlying hu,Result.andThen_ok,aN,hu];cases d<;>rfl
theorem Jn(hu:P.underlying t=some d):(sizeOf t).run P w=.ok (bj P t) w:=by
 have:=Jm hu;cases hi:P.info? t with
 |none=>simp[hi]at this
 |some i=>simp[sizeOf,typeInfo,hi,bj]
variable{o:Nat}
theorem jG{b:Nat}{y:Value}(hu:P.underlying t=some d)(ha:aN P t=false)(hc:w.cell? ⟨b,o,none⟩=some y):(Instr.loadAt t (.pointer (some ⟨b,o,none⟩))).run P w=.ok y w:=by simp only[Instr.loadAt,Instr.sureAddr,loadVar,Sem.run_bind,Sem.run_pure,Result.andThen_ok,Ia hu,ha];simp[load,Sem.run,hc]
theorem pN{b:Nat}{cs:List Value}(ha:aN P t=true)(hc:w.rangeAt b o cs)(hl:cs.length=bj P t):(Instr.loadAt t (.pointer (some ⟨b,o,none⟩))).run P w=.ok (.agg cs.toArray) w:=by grind [KU,run_loadAt_mid,Jm]
theorem aL.cellAt(hM:aL P G w0 μ φ m w){b o:Nat}{x:Value}(h:cellAt μ b o=some x):w.cell? ⟨b,o,none⟩=some x:=by
 unfold Go.Ab.cellAt at h;split at h
 ·rename_i c t fz hb;simp[World.cell?,hM.ro _ _ hb,h]
 ·cases h
theorem dL{g:Nat}{c:Array Value}{T:TypeId}{fz:Nat×Nat}(h:w.heap[g]?=some (.cells c T fz)):w.cell? ⟨g,o,none⟩=c[o]?:=by simp[World.cell?,h]
theorem jH{T:Type}{l:List T}{n i:Nat}{x:T}(h:(l.take n)[i]?=some x):i<n∧l[i]?=some x:=by grind
theorem sD{T:Type}{l:List T}{n i:Nat}{x:T}(h:((l.drop o).take n)[i]?=some x):i<n∧l[o+i]?=some x:=by grind
theorem av.ai3{cs:List PV}{b n:Nat}{X:Nat→Value}(hM:aL P G w0 μ φ m w)(h1:∀(i:Nat)p,cs[i]?=some p→Go.Ab.cellAt μ b (o+i)=some (X i))(h2:∀(i:Nat)p,cs[i]?=some p→av P μ p (X i))(h3:∀i:Nat,i<cs.length→(X i).oneCell'=true)(hn:n≤cs.length):w.rangeAt b o ((List.range n).map X)∧av P μ (.agg (cs.take n)) (.agg ((List.range n).map X).toArray):=by
 have hX:∀i x,((List.range n).map X)[i]?=some x→i<n∧x=X i:=by grind
 refine⟨fun j v hv=>?_,.agg (by simp;omega) (fun i p x hi hx=>?_) (fun i x hx=>?_)⟩
 ·obtain⟨hj,rfl⟩:=hX j v hv;exact hM.cellAt (h1 j _ (cN (by omega)))
 ·grind
 grind
end
section
variable {R:Type} {E:Env}
def Quiet(v:V)(m:Mem):Prop:=∀id,v.has id=true→(m id).isSome=true
theorem iZ{g:V→Option PV}{cs:List V}{ps:List PV}(h:uZ g cs=some ps):ps.length=cs.length∧∀(i:Nat)p,ps[i]?=some p→∃v,cs[i]?=some v∧g v=some p:=by
 induction cs generalizing ps with
 |nil=>simp[uZ]at h;subst h;simp
 |cons c r ih=>simp only[uZ]at h;obtain⟨p,hp,h⟩:=By.1 h;obtain⟨ps',tU,h⟩:=By.1 h;grind
variable{s off:Nat}{t:TypeId}{e:PV}
theorem NX{k:V→Option R}{r:R}(h:za E s t e off k=some r):∃v,(∀(R':Type)(k':V→Option R'),za E s t e off k'=k' v)∧k v=some r∧(∀id,v.has id=false)∧∀(μ:Ro)(φ:Nat→aP)(w:World)(g o:Nat)(c:Array Value)(T:TypeId),w.heap[g]?=some (.cells c T (0,0))→e.cells.length=s→(∀(j:Nat)p x,e.cells[j]?=some p→c[o+j]?=some x→av E.P μ p x)→(∀(i:Nat)(x:Value),i<o+s→c[i]?=some x→x.oneCell'=true)→o+s≤c.size→∃y,(Instr.loadAt t (.pointer (some ⟨g,o+off,none⟩))).run E.P w=.ok y w∧au E.P μ φ v y:=by
 unfold za at h;split at h
 ·rename_i ha;split at h
  ·rename_i hb;refine⟨_,fun R' k'=>by simp[za,ha,hb],h,by simp,fun μ φ w g o c T hg hs hc h1 hl=>?_⟩;have hR:w.rangeAt g (o+off) ((c.toList.drop (o+off)).take (bj E.P t)):=fun j v hv=>by grind [sD,dL]
   refine⟨_,pN ha hR (by simp;omega),.pv (.agg (by simp[bt];omega) (fun i p x hi hx=>?_) (fun i x hx=>?_))⟩
   ·grind [sD,fa,Nat.add_assoc]
   grind
  ·cases h
 ·rename_i ha;have ha:aN E.P t=false:=by simpa using ha
  split at h
  ·rename_i p hp;obtain⟨q,h1,h2,h3,_⟩:=nZ h;obtain⟨d,hu⟩:=CM h;refine⟨.pv q,fun R' k'=>by simp[za,ha,hp,h1],h2,by simp,fun μ φ w g o c T hg hs hc _ hl=>?_⟩;rw[fa hs]at hp;have ZO:off<e.cells.length:=(OF.1 hp).1;have hx:c[o+off]?=some c[o+off]:=aiX (by omega);exact⟨_,jG hu ha (by rw[dL hg];omega),.pv (h3 _ _ _ (hc off p _ hp hx))⟩
  ·cases h
variable{p:PV}
theorem ZP{k:PV→Option R}{r:R}(h:jE E t p k=some r):p.isRow=false∧p≠.bad:=by
 cases p with
 |uY s es=>exfalso;unfold jE at h;split at h<;>simp[asInt,asBool,aO,ao,asAgg,Wc,da]at h
 |bad=>exfalso;unfold jE at h;split at h<;>simp[asInt,asBool,aO,ao,asAgg,Wc,da]at h
 |_=>exact⟨rfl,by simp⟩
theorem NY(h:cell e off=p)(hp:p≠.bad):e.cells[off]?=some p:=by grind [cell,absurd]
theorem Rh{rs:List PV}(h:fV s p=some rs):p=.uY s rs:=by unfold fV at h;grind
variable{P:Program}{μ:Ro}{φ:Nat→aP}{w:World}{id i:Nat}{et:TypeId}{es:List PV}
theorem bu.cell{sz:Nat}(h:bu P μ φ w id sz et es){g:Nat}(hg:(φ id).g=some g)(he:es[i]?=some e)(hp:e.cells[off]?=some p):∃c T x,w.heap[g]?=some (.cells c T (0,0))∧c[i*sz+off]?=some x∧eH P μ ((φ id).row i off) w p x∧x.oneCell'=true:=by
 obtain⟨a1,a2,a3,a4,a5,a6,a7⟩:=h;rw[hg]at a7;obtain⟨c,T,c1,c2,c3,c4,c5⟩:=a7;have hi:i<es.length:=(OF.1 he).1;have ho:off<sz:=by grind
 have h1:(i+1)*sz≤es.length*sz:=asj _ (by omega);have h2:es.length*sz≤(φ id).cap*sz:=asj _ c3;rw[as2]at h1;have cd:i*sz+off<c.size:=by omega
 exact⟨c,T,c[i*sz+off],c1,aiX cd,c4 i e off p _ he hp (aiX cd),c5 (i*sz+off) _ (by omega) (aiX cd)⟩
theorem bu.row{sz:Nat}(h:bu P μ φ w id sz et es){rs:List PV}(he:es[i]?=some e)(hr:fV s (Go.Ab.cell e off)=some rs):∃g x,(φ id).g=some g∧w.cell? ⟨g,i*sz+off,none⟩=some x∧fm P μ ((φ id).row i off) w s rs x∧e.cells[off]?=some (.uY s rs):=by
 have hp:=NY (Rh hr) (by simp);cases hg:(φ id).g with
 |none=>obtain⟨a1,a2,a3,a4,a5,a6,a7⟩:=h;simp_all
 |some g=>obtain⟨c,_,x,c1,c2,c3,_⟩:=h.cell hg he hp;exact⟨g,x,rfl,by rw[dL c1];omega,c3,hp⟩
theorem au.ai4{ν:Ro}{x:Value}(h:au P μ (fun _=>((φ id).row i off).up) (.os 0) x):au P ν φ (.CC id i off) x:=by
 cases h with
 |yp h=>exact .Pt h
 |os h=>exact .CC h
theorem au.T0{ν:Ro}{x:Value}(h:au P μ φ (.CC id i off) x):au P ν (fun _=>((φ id).row i off).up) (.os 0) x:=by
 cases h with
 |Pt h=>exact .yp h
 |CC h=>exact .os (id:=0) (φ:=fun _=>((φ id).row i off).up) h
theorem NZ{s:Nat}:∀{es:List PV}{k:Nat}{p:PV},(gy s es)[k]?=some p→∃i j e,k=i*s+j∧j<s∧es[i]?=some e∧(aQ s e)[j]?=some p
 |[],k,p,h=>by simp[gy]at h
 |e::es,k,p,h=>by
  simp only[gy]at h;rw[asH,bt]at h;split at h
  ·exact⟨0,k,e,by omega,‹_›,rfl,h⟩
  ·obtain⟨i,j,e',h1,h2,h3,h4⟩:=NZ h;exact⟨i+1,j,e',by rw[as2];omega,h2,by simpa using h3,h4⟩
theorem Ib{s:Nat}:∀{es:List PV},(gy s es).length=es.length*s
 |[]=>by simp[gy]
 |e::es=>by simp only[gy,asn,bt,Ib,amo,as2];omega
theorem N0(h:HZ E t s i off=true):aN E.P t=true∧i=0∧off=0∧∃n e,E.P.underlying t=some (.array n e)∧bj E.P e=s∧aN E.P e=true:=by
 unfold HZ at h;split at h
 ·rename_i n e hu;simp only[amm]at h;grind [aN,Nat.eq_of_beq_eq_true]
 ·cases h
theorem aX.whole(hA:aX P μ φ w id s et es){g:Nat}(hg:(φ id).g=some g):∃xs:List Value,xs.length=es.length*s∧w.rangeAt g 0 xs∧av P μ (.agg (gy s es)) (.agg xs.toArray):=by
 obtain⟨a1,a2,a3,a4,a5,a6,a7⟩:=hA;rw[hg]at a7;obtain⟨c,T,c1,c2,c3,c4,c5⟩:=a7;have hle:es.length*s≤c.size:=asZ (asj _ c3) c2;refine⟨c.toList.take (es.length*s),by simp;omega,fun j v hv=>?_,.agg (by rw[Ib];simp;omega) (fun k p x hp hx=>?_) (fun k x hx=>?_)⟩
 ·grind [dL]
 ·obtain⟨i,j,e,rfl,hj,he,hp⟩:=NZ hp;grind [fa]
 grind
theorem Rc{own:Bool}{a:V}{m:Mem}{k:V→bN→Option R}{r:R}(h:uO E own t a m k=some r):∃v ft,(∀m2:Mem,(∀x∈ft,m2 x.2=m x.2)→∀(R':Type)(k':V→bN→Option R'),uO E own t a m2 k'=k' v ft)∧k v ft=some r∧(∀x∈ft,x.1=false)∧∀(G:Nat→Option (List PV))(w0:bO)(μ:Ro)(φ:Nat→aP)(w:World)(x:Value),aL E.P G w0 μ φ m w→au E.P μ φ a x→∃y,(Instr.loadAt t x).run E.P w=.ok y w∧au E.P μ φ v y∧Quiet v m:=by
 unfold uO at h;split at h
 ·rename_i cs;split at h
  ·rename_i ha;split at h
   ·rename_i hn;refine⟨_,_,fun m2 _ R' k'=>by simp[uO,ha,hn],h,by simp,fun G w0 μ φ w x hM hx=>?_⟩;cases hx with
    |pv hp=>cases hp with
     |rp X h1 h2 h3=>obtain⟨hr,hv⟩:=av.ai3 hM h1 h2 h3 hn;exact⟨_,pN ha hr (by simp),.pv hv,by simp[Quiet]⟩
   ·cases h
  ·rename_i ha;have ha:aN E.P t=false:=by simpa using ha
   obtain⟨p,QE,h⟩:=By.1 h;have hp1:cs[0]?=some p:=by simp_all[atV]
   obtain⟨q,h1,h2,h3,_⟩:=nZ h;refine⟨_,_,fun m2 _ R' k'=>by simp[uO,ha,QE,h1],h2,by simp,fun G w0 μ φ w x hM hx=>?_⟩;obtain⟨d,hu⟩:=CM h;cases hx with
   |pv hp=>cases hp with
    |rp X g1 g2 g3=>have hc:=hM.cellAt (g1 0 p hp1);exact⟨_,jG hu ha (by omega),.pv (h3 _ _ _ (g2 0 p hp1)),by simp[Quiet]⟩
 ·rename_i id off;split at h
  ·rename_i cs hm;split at h
   ·rename_i ha;split at h
    ·rename_i hn;refine⟨_,_,fun m2 db R' k'=>by simp[uO,ha,hn,db (false,id) (by simp),hm],h,by simp,fun G w0 μ φ w x hM hx=>?_⟩;cases hx with
     | @op _ _ g hg=>
      obtain⟨g',c,T,du,hh,hs,hv,h1,JZ⟩:=hM.dX id _ hm;rw[hg]at du;simp only[cO]at du;subst du;have hR:w.rangeAt g off ((c.toList.drop off).take (bj E.P t)):=fun j v hv=>by grind [sD,dL]
      refine⟨_,pN ha hR (by simp;omega),.agg (by simp;omega) (fun i p x hi hx=>?_) (fun i x hx=>?_),?_⟩
      ·grind
      ·grind
      ·intro yn hid;simp only[V.has]at hid;obtain⟨v,hv,hh⟩:=cW.1 hid;exact hM.gz id cs yn hm (bZ (atx (atq hv)) hh)
    ·cases h
   ·rename_i ha;have ha:aN E.P t=false:=by simpa using ha
    split at h
    ·rename_i ps tU;obtain⟨p,QE,h⟩:=By.1 h;obtain⟨q,h1,h2,h3,_⟩:=nZ h;refine⟨_,_,fun m2 db R' k'=>by simp[uO,ha,db (false,id) (by simp),hm,tU,QE,h1],h2,by simp,fun G w0 μ φ w x hM hx=>?_⟩;cases hx with
     | @op _ _ g hg=>
      obtain⟨g',c,T,du,hh,hs,hvv,_⟩:=hM.dX id _ hm;rw[hg]at du;simp only[cO]at du;subst du;obtain⟨f1,f2⟩:=iZ tU;obtain⟨cd,hp1⟩:=OF.1 QE;have ZO:off<cs.length:=by omega
      obtain⟨v,hv,pk⟩:=f2 off p QE;have hvp:v=.pv p:=by cases v<;>simp[pvO]at pk;subst pk;rfl
      subst hvp;have hx:c[off]?=some c[off]:=aiX (by omega);obtain⟨d,hu⟩:=CM h;have hr:=hvv off _ _ hv hx;cases hr with
      |pv hr=>exact⟨_,jG hu ha (by rw[dL hh];omega),.pv (h3 _ _ _ hr),by simp[Quiet]⟩
    ·rename_i hnp;split at h
     ·rename_i v hv;obtain⟨u,h1,h2,h3,h4⟩:=Rg h;refine⟨_,_,fun m2 db R' k'=>by simp[uO,ha,db (false,id) (by simp),hm,hnp,hv,h1],h2,by simp,fun G w0 μ φ w x hM hx=>?_⟩;cases hx with
      | @op _ _ g hg=>obtain⟨g',c,T,du,hh,hs,hvv,_⟩:=hM.dX id _ hm;rw[hg]at du;simp only[cO]at du;subst du;have ZO:off<cs.length:=(OF.1 hv).1;have hx:c[off]?=some c[off]:=aiX (by omega);obtain⟨d,hu⟩:=NW h;refine⟨_,jG hu ha (by rw[dL hh];omega),h3 _ _ _ _ (hvv off v _ hv hx),fun yn hid=>?_⟩;exact hM.gz id cs yn hm (bZ (aqY hv) (h4 yn hid))
     ·cases h
  ·cases h
 ·rename_i id i off;have key:∀(sz:Nat)(et:TypeId)(es:List PV),(m id=some (.arr sz et es)∨m id=some (.vK sz et es))→((es[i]?).bind fun e=>za E sz t e off fun v=>k v [(false,id)])=some r→∃v,(∀(R':Type)(k':V→bN→Option R'),((es[i]?).bind fun e=>za E sz t e off fun v=>k' v [(false,id)])=k' v [(false,id)])∧k v [(false,id)]=some r∧∀(G:Nat→Option (List PV))(w0:bO)(μ:Ro)(φ:Nat→aP)(w:World)(x:Value),aL E.P G w0 μ φ m w→au E.P μ φ (.oe id i off) x→∃y,(Instr.loadAt t x).run E.P w=.ok y w∧au E.P μ φ v y∧Quiet v m:=by
   intro sz et es hm hb;obtain⟨e,he,hb⟩:=By.1 hb;obtain⟨v,h1,h2,h3,h4⟩:=NX hb;refine⟨v,fun R' k'=>by simp[he,h1],h2,fun G w0 μ φ w x hM hx=>?_⟩;have hA:aX E.P μ φ w id sz et es:=by
    rcases hm with hm|hm
    ·exact hM.dX id _ hm
    ·exact(hM.dX id _ hm).1
   cases hx with
   | @oe _ _ _ g hg=>
    obtain⟨a1,a2,a3,a4,a5,a6,a7⟩:=hA;rw[hg]at a7;obtain⟨c,T,c1,c2,c3,c4,c5⟩:=a7;have hi:i<es.length:=(OF.1 he).1;obtain⟨y,hy,hv⟩:=h4 μ φ w g (i*sz) c T c1 (a5 i e he) (fun j p x hj hx=>c4 i e j p x he hj hx) (fun i' x uP hx=>c5 i' x (by
     have:(i+1)*sz≤es.length*sz:=asj _ (by omega);grind) hx) (by
     have:(i+1)*sz≤(φ id).cap*sz:=asj _ (by omega);grind)
    rw[a2];exact⟨y,hy,hv,fun id hid=>by simp_all⟩
  split at h
  ·rename_i sz et es hm;cases hw:HZ E t sz i off with
   |true=>
    rw[hw]at h;simp only[cond_true]at h;split at h
    ·rename_i hl;obtain⟨ha,rfl,rfl,_⟩:=N0 hw;refine⟨_,_,fun m2 db R' k'=>by have:=db (false,id) (by simp);simp_all[uO,cond_true,IN],h,by simp,fun G w0 μ φ w x hM hx=>?_⟩;have hA:aX E.P μ φ w id sz et es:=hM.dX id _ hm;cases hx with
     | @oe _ _ _ g hg=>obtain⟨xs,x1,x2,x3⟩:=hA.whole hg;rw[avt];exact⟨_,pN ha x2 (by omega),.pv x3,by simp[Quiet]⟩
    ·cases h
   |false=>rw[hw]at h;obtain⟨v,h1,h2,h3⟩:=key sz et es (.inl hm) h;exact⟨v,_,fun m2 db R' k'=>by have:=db (false,id) (by simp);simp_all[uO,cond_false],h2,by simp,h3⟩
  ·rename_i sz et es hm;obtain⟨v,h1,h2,h3⟩:=key sz et es (.inr hm) h;exact⟨v,_,fun m2 db R' k'=>by have:=db (false,id) (by simp);simp_all[uO],h2,by simp,h3⟩
  ·rename_i sz et es hm;split at h
   ·cases h
   ·rename_i ha;obtain⟨e,he,h⟩:=By.1 h;have ha':aN E.P t=false:=by simpa using ha
    split at h
    ·rename_i ho;split at h
     ·rename_i M9 hu;obtain⟨rs,hr,h⟩:=By.1 h;refine⟨_,_,fun m2 db R' k'=>by have:=db (false,id) (by simp);simp_all[uO,IS,asq,BY],h,by simp,fun G w0 μ φ w x hM hx=>?_⟩;have hN:bu E.P μ φ w id sz et es:=hM.dX id _ hm;obtain⟨g,y,hg,hc,pz,_⟩:=hN.row he hr;cases hx with
      |oe du=>rw[hg]at du;simp only[cO]at du;subst du;rw[hN.2.1];refine⟨y,jG hu ha' hc,.ai4 pz.2,fun j hj=>?_⟩;have:=Ka hj;subst this;rw[hm];rfl
     ·cases h
    ·rename_i ho;obtain⟨q,h1,h2,h3,_⟩:=nZ h;obtain⟨hq1,hq2⟩:=ZP h;obtain⟨d,hu⟩:=CM h;refine⟨_,_,fun m2 db R' k'=>by have:=db (false,id) (by simp);simp_all[uO,IS,asq,IT,cQ],h2,by simp,fun G w0 μ φ w x hM hx=>?_⟩;have hN:bu E.P μ φ w id sz et es:=hM.dX id _ hm;cases hx with
     |oe hg=>obtain⟨c,_,y,c1,c2,c3,_⟩:=hN.cell hg he (NY rfl hq2);rw[hN.2.1];exact⟨y,jG hu ha' (by rw[dL c1];omega),.pv (h3 _ _ _ (c3.Wh hq1)),by simp[Quiet]⟩
  ·cases h
 ·rename_i id i off s j off2;split at h
  ·rename_i sz et es hm;obtain⟨e,he,h⟩:=By.1 h;obtain⟨rs,hr,h⟩:=By.1 h;obtain⟨q,hq,h⟩:=By.1 h;obtain⟨v,h1,h2,h3,h4⟩:=NX h;refine⟨v,_,fun m2 db R' k'=>by have:=db (false,id) (by simp);simp_all[uO,asq],h2,by simp,fun G w0 μ φ w x hM hx=>?_⟩;have hN:bu E.P μ φ w id sz et es:=hM.dX id _ hm;obtain⟨g,y,hg,hc,⟨⟨M9,hA⟩,hV⟩,_⟩:=hN.row he hr;cases hx with
   | @GI _ _ _ _ _ _ g' du hs=>obtain⟨a1,a2,a3,a4,a5,a6,a7⟩:=hA;have hgu:((φ id).row i off).up.g=some g':=du;rw[hgu]at a7;obtain⟨c,T,c1,c2,c3,c4,c5⟩:=a7;have hj:j<rs.length:=(OF.1 hq).1;have e1:(j+1)*s≤rs.length*s:=asj _ (by omega);have e2:rs.length*s≤((φ id).row i off).up.cap*s:=asj _ c3;have e3:((φ id).row i off).up.cap*s≤c.size:=c2;rw[as2]at e1;obtain⟨y,hy,hv⟩:=h4 μ φ w g' (j*s) c T c1 (a5 j q hq) (fun l p x hl hx=>c4 j q l p x hq hl hx) (fun i' x uP hx=>c5 i' x (by omega) hx) (by omega);exact⟨y,hy,hv,fun id hid=>by simp_all⟩
  ·cases h
 ·cases h
end
section
variable {R:Type} {E:Env}
variable{s t:TypeId}{j o:Nat}
theorem Jo(h:GL E s j=some (o,t)):∃fs f,E.P.underlying s=some (.struct fs)∧fs[j]?=some f∧f.offset=o∧f.type=t∧bj E.P t≠0:=by unfold GL at h;grind
variable{P:Program}
theorem Es(h:bj P t≠0):∃i,P.info? t=some i∧i.size=bj P t:=by
 unfold bj at*;cases hi:P.info? t with
 |none=>simp[hi]at h
 |some i=>simp
variable{w:World}
theorem lr(h:bj P t≠0):(sizeOf t).run P w=.ok (bj P t) w:=by obtain⟨i,hi,hs⟩:=Es h;simp[sizeOf,typeInfo,hi,hs]
theorem yB{fs:Array Field}{f:Field}{b:Nat}(hu:P.underlying s=some (.struct fs))(hf:fs[j]?=some f)(hz:bj P f.type≠0):(Instr.fieldAt s (.pointer (some ⟨b,o,none⟩)) j).run P w=.ok (.pointer (some ⟨b,o+f.offset,none⟩)) w:=by simp_all[Instr.fieldAt,run_underlying,Instr.sureAddr,fieldPlace,lr,Addr.add_mid]
theorem As{T:Type}{l:List T}{i:Nat}{x:T}(h:(l.drop o)[i]?=some x):l[o+i]?=some x:=by simp_all
theorem av.Pu{μ:Ro}{cs:List PV}{b:Nat}(n:Nat)(h:av P μ (.rp cs) (.pointer (some ⟨b,o,none⟩))):av P μ (.rp (cs.drop n)) (.pointer (some ⟨b,o+n,none⟩)):=by
 cases h with
 |rp X h1 h2 h3=>
  refine .rp (fun i=>X (n+i)) (fun i p hi=>?_) (fun i p hi=>h2 _ p (As hi)) (fun i hi=>h3 _ ?_)
  ·grind
  ·simp at hi;omega
variable{x:V}{k:V→Option R}{r:R}
theorem Nj(h:ma E s x j k=some r):∃v,(∀(R':Type)(k':V→Option R'),ma E s x j k'=k' v)∧k v=some r∧(∀id,v.has id=x.has id)∧∀(μ:Ro)(φ:Nat→aP)(w:World)(y:Value),au E.P μ φ x y→∃z,(Instr.fieldAt s y j).run E.P w=.ok z w∧au E.P μ φ v z:=by
 unfold ma at h;split at h
 ·rename_i o t ho;obtain⟨fs,f,hu,hf,rfl,rfl,hz⟩:=Jo ho;split at h
  ·rename_i cs;refine⟨_,fun R' k'=>by simp[ma,ho],h,by simp,fun μ φ w y hy=>?_⟩;cases hy with
   |pv hp=>cases hp with
    |rp X h1 h2 h3=>exact⟨_,yB hu hf hz,.pv (av.Pu _ (.rp X h1 h2 h3))⟩
  ·rename_i id off;refine⟨_,fun R' k'=>by simp[ma,ho],h,by simp[V.has],fun μ φ w y hy=>?_⟩;cases hy with
   |op hg=>exact⟨_,yB hu hf hz,.op hg⟩
  ·rename_i id i off;refine⟨_,fun R' k'=>by simp[ma,ho],h,by simp[V.has],fun μ φ w y hy=>?_⟩;cases hy with
   |oe hg=>exact⟨_,yB hu hf hz,by rw[asW];exact .oe hg⟩
  ·refine⟨_,fun R' k'=>by simp[ma,ho],h,by simp[V.has],fun μ φ w y hy=>?_⟩;cases hy with
   |GI hg hs=>exact⟨_,yB hu hf hz,by rw[asW];exact .GI hg hs⟩
  ·cases h
 ·cases h
theorem jI{e:TypeId}{q:IntKind}{i:Int}{ad:Addr}{len cap:Nat}(hu:P.underlying t=some (.slice e))(hz:bj P e≠0)(h0:0≤i)(h1:i<(len:Int)):(Instr.indexAt t (.slice (some ad) len cap) (.int q i)).run P w=.ok (.pointer (some (ad.add (i.toNat*bj P e)))) w:=by simp[Instr.indexAt,asIntOf,run_underlying hu,h0,h1,lr hz]
theorem n9{e:TypeId}{n:Nat}{q:IntKind}{i:Int}{ad:Addr}(hu:P.underlying t=some (.array n e))(hz:bj P e≠0)(h0:0≤i)(h1:i<(n:Int)):(Instr.indexAt t (.pointer (some ad)) (.int q i)).run P w=.ok (.pointer (some (ad.add (i.toNat*bj P e)))) w:=by simp[Instr.indexAt,asIntOf,run_underlying hu,h0,h1,lr hz,Instr.sureAddr]
theorem agI{es:List PV}{i:Int}{p:PV}(h:dB es i=some p):0≤i∧es[i.toNat]?=some p∧i<(es.length:Int):=by grind [dB]
theorem av.Wj{μ:Ro}{sz:Nat}{es:List PV}{x:Value}{n:Nat}{p:PV}(h:av P μ (.rs sz es) x)(hp:es[n]?=some p):∃b o cap,x=.slice (some ⟨b,o,none⟩) es.length cap∧av P μ (.rp (aQ sz p)) (.pointer (some ⟨b,o+n*sz,none⟩)):=by
 cases h with
 |ny=>simp at hp
 |Ni _=>simp at hp
 | @rs _ _ b o cap X h1 h2 h3 h4 h5 h6=>refine⟨b,o,cap,rfl,?_⟩;rw[fa (h3 n p hp)];exact .rp (X n) (fun i q hi=>h4 n p i q hp hi) (fun i q hi=>h5 n p i q hp hi) (fun i hi=>h6 n p i _ hp (cN hi))
theorem Nk{ix:V}{m:Mem}{k:V→bN→Option R}(h:dC E t x ix m k=some r):∃v ft,(∀m2:Mem,(∀x∈ft,m2 x.2=m x.2)→∀(R':Type)(k':V→bN→Option R'),dC E t x ix m2 k'=k' v ft)∧k v ft=some r∧(∀x∈ft,x.1=false)∧(∀id,v.has id=true→x.has id=true)∧∀(G:Nat→Option (List PV))(w0:bO)(μ:Ro)(φ:Nat→aP)(w:World)(y z:Value),aL E.P G w0 μ φ m w→au E.P μ φ x y→au E.P μ φ ix z→∃u,(Instr.indexAt t y z).run E.P w=.ok u w∧au E.P μ φ v u:=by
 unfold dC at h;split at h
 ·rename_i q i;split at h
  ·rename_i e s es hu;split at h
   ·rename_i hs;obtain⟨p,hp,hk⟩:=By.1 h;refine⟨_,_,fun m2 _ R' k'=>by simp only[dC,hu];rw[IN hs,hp];rfl,hk,by simp,by simp,fun G w0 μ φ w y z hM hy hz=>?_⟩;obtain⟨h0,hp,hl⟩:=agI hp;cases hz with
    |pv hz=>cases hz with
     |int Kj=>
      cases hy with
      |pv hy=>obtain⟨b,o,cap,rfl,hr⟩:=hy.Wj hp;refine⟨_,jI hu (by omega) h0 hl,?_⟩;rw[Addr.add_mid,←hs.1];exact .pv hr
   ·cases h
  ·rename_i e id hu;have key:∀(s:Nat)(et:TypeId)(es:List PV),(m id=some (.arr s et es)∨m id=some (.vK s et es))→s=bj E.P e∧0<s→al i es.length→∀(G:Nat→Option (List PV))(w0:bO)(μ:Ro)(φ:Nat→aP)(w:World)(y z:Value),aL E.P G w0 μ φ m w→au E.P μ φ (.os id) y→au E.P μ φ (.pv (.int q i)) z→∃u,(Instr.indexAt t y z).run E.P w=.ok u w∧au E.P μ φ (.oe id i.toNat 0) u:=by
    intro s et es hm hs hr G w0 μ φ w y z hM hy hz;have hA:aX E.P μ φ w id s et es:=by
     rcases hm with hm|hm
     ·exact hM.dX id _ hm
     ·exact(hM.dX id _ hm).1
    obtain⟨a1,a2,a3,a4,a5,a6,a7⟩:=hA;cases hz with
    |pv hz=>cases hz with
     |int Kj=>
      cases hy with
      |yp hg=>grind [al]
      | @os _ g hg=>refine⟨_,jI hu (by omega) hr.1 (by rw[a1];exact hr.2),?_⟩;rw[Addr.add_mid];have:=au.oe (P:=E.P) (μ:=μ) (φ:=φ) (id:=id) (i:=i.toNat) (off:=0) hg;simp_all
   split at h
   ·rename_i s et es hm;split at h
    ·rename_i hs;split at h
     ·rename_i hr;exact⟨_,_,fun m2 db R' k'=>by have:=db (false,id) (by simp);simp only at this;simp only[dC,hu,this,hm];grind,h,by simp,by simp[V.has],key s et es (.inl hm) hs hr⟩
     ·cases h
    ·cases h
   ·rename_i s et es hm;split at h
    ·rename_i hs;split at h
     ·rename_i hr;exact⟨_,_,fun m2 db R' k'=>by have:=db (false,id) (by simp);simp only at this;simp only[dC,hu,this,hm];grind,h,by simp,by simp[V.has],key s et es (.inr hm) hs hr⟩
     ·cases h
    ·cases h
   ·rename_i s et es hm;split at h
    ·rename_i hs;split at h
     ·rename_i hr;refine⟨_,_,fun m2 db R' k'=>by have:=db (false,id) (by simp);simp only at this;simp only[dC,hu,this,hm];grind,h,by simp,by simp[V.has],fun G w0 μ φ w y z hM hy hz=>?_⟩;have hA:bu E.P μ φ w id s et es:=hM.dX id _ hm;obtain⟨a1,a2,a3,a4,a5,a6,a7⟩:=hA;cases hz with
      |pv hz=>cases hz with
       |int Kj=>
        cases hy with
        |yp hg=>grind [al]
        | @os _ g hg=>refine⟨_,jI hu (by omega) hr.1 (by rw[a1];exact hr.2),?_⟩;rw[Addr.add_mid];have:=au.oe (P:=E.P) (μ:=μ) (φ:=φ) (id:=id) (i:=i.toNat) (off:=0) hg;simp_all
     ·cases h
    ·cases h
   ·rename_i cs hm;split at h
    ·rename_i hs;refine⟨_,_,fun m2 db R' k'=>by have:=db (false,id) (by simp);simp_all[dC,IN],h,by simp,by simp[V.has],fun G w0 μ φ w y z hM hy hz=>?_⟩;obtain⟨g,c,T,hg,hh,rW,hv,Au,JZ⟩:=hM.dX id _ hm;cases hz with
     |pv hz=>cases hz with
      |int Kj=>
       cases hy with
       |yp du=>simp_all
       | @os _ g' du=>refine⟨_,jI hu (by omega) hs.2.1 (by rw[JZ];exact hs.2.2),?_⟩;rw[Addr.add_mid,hs.1];have:=au.op (P:=E.P) (μ:=μ) (φ:=φ) (id:=id) (off:=i.toNat) du;simpa using this
    ·cases h
   ·cases h
  ·rename_i e id i0 off hu;split at h
   ·rename_i s0 et0 es hm;split at h
    ·rename_i eS;obtain⟨e0,he,h⟩:=By.1 h;obtain⟨rs,QF,h⟩:=By.1 h;split at h
     ·rename_i hr;refine⟨_,_,fun m2 db R' k'=>by have:=db (false,id) (by simp);simp_all[dC,IN,asq],h,by simp,by simp[V.has],fun G w0 μ φ w y z hM hy hz=>?_⟩;have hN:bu E.P μ φ w id s0 et0 es:=hM.dX id _ hm;obtain⟨_,_,_,_,⟨⟨M9,hA⟩,_⟩,_⟩:=hN.row he QF;obtain⟨a1,a2,a3,a4,a5,a6,a7⟩:=hA;cases hz with
      |pv hz=>cases hz with
       |int Kj=>
        cases hy with
        |Pt hg=>have du:((φ id).row i0 off).up.g=none:=hg;simp_all[al]
        | @CC _ _ _ g hg=>have a1':((φ id).row i0 off).len=rs.length:=a1;refine⟨_,jI hu (by omega) hr.1 (by rw[a1'];exact hr.2),?_⟩;rw[Addr.add_mid];have:=au.GI (P:=E.P) (μ:=μ) (φ:=φ) (id:=id) (i:=i0) (off:=off) (s:=bj E.P e) (j:=i.toNat) (off2:=0) hg a2;simpa using this
     ·cases h
    ·cases h
   ·cases h
  ·rename_i e id lo len hu;have key:∀(s:Nat)(et:TypeId)(es:List PV),(m id=some (.arr s et es)∨m id=some (.vK s et es))→s=bj E.P e∧0<s→al i len→∀(G:Nat→Option (List PV))(w0:bO)(μ:Ro)(φ:Nat→aP)(w:World)(y z:Value),aL E.P G w0 μ φ m w→au E.P μ φ (.gx id lo len) y→au E.P μ φ (.pv (.int q i)) z→∃u,(Instr.indexAt t y z).run E.P w=.ok u w∧au E.P μ φ (.oe id (lo+i.toNat) 0) u:=by
    intro s et es hm hs hr G w0 μ φ w y z hM hy hz;have hA:aX E.P μ φ w id s et es:=by
     rcases hm with hm|hm
     ·exact hM.dX id _ hm
     ·exact(hM.dX id _ hm).1
    obtain⟨a1,a2,a3,a4,a5,a6,a7⟩:=hA;cases hz with
    |pv hz=>cases hz with
     |int Kj=>
      cases hy with
      |wa hg=>simp[al]at hr;omega
      | @gx _ _ _ J0 g ad hg hl ha hc1 hc2=>
       have ha:=ha.resolve_right fun hh=>by have:=hr.1;have:=hr.2;omega
       subst ha;refine⟨_,jI hu (by omega) hr.1 hr.2,?_⟩;rw[Addr.add_mid];have:=au.oe (P:=E.P) (μ:=μ) (φ:=φ) (id:=id) (i:=lo+i.toNat) (off:=0) hg;grind
   split at h
   ·rename_i s et es hm;split at h
    ·rename_i hs;split at h
     ·rename_i hr;exact⟨_,_,fun m2 db R' k'=>by have:=db (false,id) (by simp);simp only at this;simp only[dC,hu,this,hm];grind,h,by simp,by simp[V.has],key s et es (.inl hm) hs hr⟩
     ·cases h
    ·cases h
   ·rename_i s et es hm;split at h
    ·rename_i hs;split at h
     ·rename_i hr;exact⟨_,_,fun m2 db R' k'=>by have:=db (false,id) (by simp);simp only at this;simp only[dC,hu,this,hm];grind,h,by simp,by simp[V.has],key s et es (.inr hm) hs hr⟩
     ·cases h
    ·cases h
   ·cases h
  ·rename_i n e id off hu;split at h
   ·rename_i hr;refine⟨_,_,fun m2 _ R' k'=>by simp_all[dC,IN],h,by simp,by simp[V.has],fun G w0 μ φ w y z hM hy hz=>?_⟩;cases hz with
    |pv hz=>cases hz with
     |int Kj=>
      cases hy with
      |op hg=>exact⟨_,n9 hu (by omega) hr.1.1 hr.1.2,by rw[Addr.add_mid];exact .op hg⟩
   ·cases h
  ·rename_i n e cs hu;split at h
   ·rename_i hr;refine⟨_,_,fun m2 _ R' k'=>by simp_all[dC,IN],h,by simp,by simp,fun G w0 μ φ w y z hM hy hz=>?_⟩;cases hz with
    |pv hz=>cases hz with
     |int Kj=>
      cases hy with
      |pv hy=>cases hy with
       |rp X h1 h2 h3=>exact⟨_,n9 hu (by omega) hr.1.1 hr.1.2,by rw[Addr.add_mid];exact .pv (av.Pu _ (.rp X h1 h2 h3))⟩
   ·cases h
  ·rename_i n e id j off hu;split at h
   ·rename_i hr;split at h
    ·rename_i hb;refine⟨_,_,fun m2 db R' k'=>by have:=db (false,id) (by simp);simp_all[dC,IN],h,by simp,by simp[V.has],fun G w0 μ φ w y z hM hy hz=>?_⟩;have rW:(φ id).sz=bj E.P e:=by
      split at hb
      ·rename_i s et es hm;rw[Ka hb];have hA:aX E.P μ φ w id s et es:=hM.dX id _ hm;exact hA.2.1
      ·cases hb
     cases hz with
     |pv hz=>cases hz with
      |int Kj=>
       cases hy with
       |oe hg=>refine⟨_,n9 hu (by omega) hr.1.1 hr.1.2,?_⟩;have:=au.oe (P:=E.P) (μ:=μ) (φ:=φ) (id:=id) (i:=i.toNat+j) (off:=off) hg;grind [Addr.add_mid,id,bj,Nat.add_mul]
    ·rename_i hb;refine⟨_,_,fun m2 db R' k'=>by have:=db (false,id) (by simp);simp_all[dC,IN],h,by simp,by simp[V.has],fun G w0 μ φ w y z hM hy hz=>?_⟩;cases hz with
     |pv hz=>cases hz with
      |int Kj=>
       cases hy with
       |oe hg=>exact⟨_,n9 hu (by omega) hr.1.1 hr.1.2,by rw[Addr.add_mid,asW];exact .oe hg⟩
   ·cases h
  ·cases h
 ·cases h
theorem tF{cs:List V}(h:vW x=some cs):(∀id,cA id cs=true→x.has id=true)∧∀(P:Program)(μ:Ro)(φ:Nat→aP)y,au P μ φ x y→∃xs:Array Value,y=.agg xs∧cs.length=xs.size∧(∀(i:Nat)p x,cs[i]?=some p→xs[i]?=some x→au P μ φ p x)∧(∀(i:Nat)(x:Value),xs[i]?=some x→x.oneCell'=true):=by
 unfold vW at h;split at h
 ·simp only[cO]at h;subst h;refine⟨fun id hid=>(by rw[Wi]at hid;cases hid),fun P μ φ y hy=>?_⟩;cases hy with
  |pv hy=>cases hy with
   |agg h1 h2 h3=>refine⟨_,rfl,by simpa using h1,fun i p x hi hx=>?_,h3⟩;simp only[AT,aqX]at hi;obtain⟨q,hq,rfl⟩:=hi;exact .pv (h2 i q x hq hx)
 ·simp only[cO]at h;subst h;refine⟨fun id hid=>by simpa[V.has]using hid,fun P μ φ y hy=>?_⟩;cases hy with
  |agg h1 h2 h3=>grind
 ·cases h
variable{xs:Array Value}{off:Nat}
theorem GS(ha:aN P t=true):(part t xs off).run P w=.ok (.agg (xs.extract off (off+bj P t))) w:=by obtain⟨d,hu,_⟩:=KU ha;simp_all[part,Ia,Jn]
theorem GU{d:TypeDesc}{y:Value}(hu:P.underlying t=some d)(ha:aN P t=false)(hy:xs[off]?=some y):(part t xs off).run P w=.ok y w:=by simp[part,Ia hu,ha,hy]
theorem Ri{cs:List V}(h:KE E t cs off k=some r):∃v,(∀(R':Type)(k':V→Option R'),KE E t cs off k'=k' v)∧k v=some r∧(∀id,v.has id=true→cA id cs=true)∧∀(μ:Ro)(φ:Nat→aP)(w:World)(xs:Array Value),cs.length=xs.size→(∀(i:Nat)p x,cs[i]?=some p→xs[i]?=some x→au E.P μ φ p x)→(∀(i:Nat)(x:Value),xs[i]?=some x→x.oneCell'=true)→∃z,(part t xs off).run E.P w=.ok z w∧au E.P μ φ v z:=by
 unfold KE at h;split at h
 ·rename_i ha;split at h
  ·rename_i hn;refine⟨_,fun R' k'=>by simp[KE,ha,hn],h,fun id hid=>?_,fun μ φ w xs h1 h2 h3=>⟨_,GS ha,?_⟩⟩
   ·simp only[V.has]at hid;obtain⟨v,hv,hh⟩:=cW.1 hid;grind [bZ,List.mem_of_mem_drop,List.mem_of_mem_take]
   ·refine .agg (by simp;omega) (fun i p x hi hx=>?_) (fun i x hx=>?_)
    ·grind
    grind [Array.getElem?_extract]
  ·cases h
 ·rename_i ha;have ha:aN E.P t=false:=by simpa using ha
  split at h
  ·rename_i v hv;obtain⟨u,h1,h2,h3,h4⟩:=Rg h;obtain⟨d,hu⟩:=NW h;refine⟨u,fun R' k'=>by simp[KE,ha,hv,h1],h2,fun id hid=>bZ (aqY hv) (h4 id hid),fun μ φ w xs g1 g2 g3=>?_⟩;have cd:off<cs.length:=(OF.1 hv).1;have hx:xs[off]?=some xs[off]:=aiX (by omega);grind [GU]
  ·cases h
theorem ZQ(h:KF E s x j k=some r):∃v,(∀(R':Type)(k':V→Option R'),KF E s x j k'=k' v)∧k v=some r∧(∀id,v.has id=true→x.has id=true)∧∀(μ:Ro)(φ:Nat→aP)(w:World)(y:Value),au E.P μ φ x y→∃z,(Instr.field s y j).run E.P w=.ok z w∧au E.P μ φ v z:=by
 unfold KF at h;split at h
 ·rename_i o t cs ho hc;obtain⟨fs,f,hu,hf,rfl,rfl,hz⟩:=Jo ho;obtain⟨v,h1,h2,h3,h4⟩:=Ri h;obtain⟨c1,c2⟩:=tF hc;refine⟨v,fun R' k'=>by simp[KF,ho,hc,h1],h2,fun id hid=>c1 id (h3 id hid),fun μ φ w y hy=>?_⟩;obtain⟨xs,rfl,g1,g2,g3⟩:=c2 _ _ _ _ hy;obtain⟨z,hz,hv⟩:=h4 μ φ w xs g1 g2 g3;exact⟨z,by simp[Instr.field,run_underlying hu,hf,Go.asAgg,hz],hv⟩
 ·cases h
theorem wf_u8(b:UInt8):(Lit.int .u8 b.toNat).wf=true:=by rw[sC];have:=b.toNat_lt;simp[IntKind.min,IntKind.max,IntKind.signed,IntKind.bits];omega
theorem ZR{ix:V}(h:H3 E t x ix k=some r):∃v,(∀(R':Type)(k':V→Option R'),H3 E t x ix k'=k' v)∧k v=some r∧(∀id,v.has id=true→x.has id=true)∧∀(μ:Ro)(φ:Nat→aP)(w:World)(y z:Value),au E.P μ φ x y→au E.P μ φ ix z→∃u,(Instr.index t y z).run E.P w=.ok u w∧au E.P μ φ v u:=by
 unfold H3 at h;split at h
 ·rename_i q i;split at h
  ·rename_i s hu;obtain⟨b,hb,hk⟩:=By.1 h;refine⟨_,fun R' k'=>by simp[H3,hu,hb],hk,by simp,fun μ φ w y z hy hz=>?_⟩;cases hz with
   |pv hz=>cases hz with
    |int Kj=>
     cases hy with
     |pv hy=>cases hy with
      |str hl=>
       unfold QX at hb;split at hb
       ·rename_i h0;have cd:=(OF.1 hb).1;have ke:(⟨s.toArray⟩:ByteArray)[i.toNat]?=some b:=by
         rw[getElem?_def];have:i.toNat<(⟨s.toArray⟩:ByteArray).size:=by simpa[ByteArray.size]using cd
         rw[avz this];have e:=(OF.1 hb).2;simp only[cO];rw[←e];rfl
        refine⟨_,?_,.pv (.int (wf_u8 b))⟩;simp[Instr.index,asIntOf,run_underlying hu,h0,ke]
       ·cases hb
  ·rename_i n et hu;split at h
   ·rename_i cs hc;split at h
    ·rename_i hn;obtain⟨v,h1,h2,h3,h4⟩:=Ri h;obtain⟨c1,c2⟩:=tF hc;refine⟨v,fun R' k'=>by simp only[H3,hu,hc];rw[IN hn,h1],h2,fun id hid=>c1 id (h3 id hid),fun μ φ w y z hy hz=>?_⟩;obtain⟨xs,rfl,g1,g2,g3⟩:=c2 _ _ _ _ hy;obtain⟨u,hu1,hv⟩:=h4 μ φ w xs g1 g2 g3;cases hz with
     |pv hz=>cases hz with
      |int Kj=>refine⟨u,?_,hv⟩;have hr:=hn.1;unfold al at hr;simp[Instr.index,asIntOf,run_underlying hu,hr.1,hr.2,lr (show bj E.P et≠0 by omega),hu1]
    ·cases h
   ·cases h
  ·cases h
 ·cases h
end
section
variable {R:Type} {E:Env}
theorem KV(s:Bytes):(⟨s.toArray⟩:ByteArray).size=s.length:=by rfl
theorem KW{n:Nat}(h:n≤maxLen):(Lit.int .i64 (n:Int)).wf=true:=by grind [sC,maxLen,IntKind.min,IntKind.max,IntKind.signed,IntKind.bits]
variable{P:Program}{μ:Ro}{sz:Nat}{es:List PV}
theorem ai5{x:Value}(h:av P μ (.rs sz es) x):∃a cap,x=.slice a es.length cap∧es.length≤maxLen:=by
 cases h with
 |ny=>simp
 | @Ni _ cap a h=>simp
 |rs X h1 h2=>grind
variable{φ:Nat→aP}{m:Mem}{w:World}
theorem aL.arr{G:Nat→Option (List PV)}{w0:bO}(hM:aL P G w0 μ φ m w){id s:Nat}{et:TypeId}(hm:m id=some (.arr s et es)∨m id=some (.vK s et es)):aX P μ φ w id s et es:=by
 rcases hm with hm|hm
 ·exact hM.dX id _ hm
 ·exact(hM.dX id _ hm).1
theorem aX.tG{id s:Nat}{et:TypeId}(h:aX P μ φ w id s et es):es.length≤(φ id).cap∧(φ id).cap≤maxLen:=by obtain⟨a1,a2,a3,a4,a5,a6,a7⟩:=h;grind
variable{x:V}{k:Nat→bN→Option R}{r:R}
theorem agJ(h:Ng m x k=some r):∃n ft,(∀m2:Mem,(∀x∈ft,m2 x.2=m x.2)→∀(R':Type)(k':Nat→bN→Option R'),Ng m2 x k'=k' n ft)∧k n ft=some r∧(∀x∈ft,x.1=false)∧∀(P:Program)(G:Nat→Option (List PV))(w0:bO)(μ:Ro)(φ:Nat→aP)(w:World)(y:Value),aL P G w0 μ φ m w→au P μ φ x y→(∀id,x.has id=true→(m id).isSome=true)→n≤maxLen∧∃a cap,y=.slice a n cap:=by
 unfold Ng at h;split at h
 ·refine⟨_,_,fun m2 _ R' k'=>by rfl,h,by simp,fun P G w0 μ φ w y hM hy _=>?_⟩;cases hy with
  |pv hy=>obtain⟨a,cap,rfl,hl⟩:=ai5 hy;simp_all
 ·refine⟨_,_,fun m2 _ R' k'=>by rfl,h,by simp,fun P G w0 μ φ w y hM hy _=>?_⟩;cases hy;simp
 ·rename_i id lo len;have key:∀(s:Nat)(et:TypeId)(es:List PV),(m id=some (.arr s et es)∨m id=some (.vK s et es))→∀(P:Program)(G:Nat→Option (List PV))(w0:bO)(μ:Ro)(φ:Nat→aP)(w:World)(y:Value),aL P G w0 μ φ m w→au P μ φ (.gx id lo len) y→len≤maxLen∧∃a cap,y=.slice a len cap:=by
   intro s et es hm P G w0 μ φ w y hM hy;have hA:=hM.arr hm;have hl:=hA.tG;cases hy with
   |wa=>simp
   |gx hg hl' ha=>grind
  split at h
  ·rename_i s et es hm;exact⟨_,_,fun m2 db R' k'=>by have:=db (false,id) (by simp);simp_all[Ng],h,by simp,fun P G w0 μ φ w y hM hy _=>key s et es (.inl hm) P G w0 μ φ w y hM hy⟩
  ·rename_i s et es hm;exact⟨_,_,fun m2 db R' k'=>by have:=db (false,id) (by simp);simp_all[Ng],h,by simp,fun P G w0 μ φ w y hM hy _=>key s et es (.inr hm) P G w0 μ φ w y hM hy⟩
  ·cases h
 ·rename_i id;split at h
  ·rename_i s et es hm;refine⟨_,_,fun m2 db R' k'=>by have:=db (false,id) (by simp);simp_all[Ng],h,by simp,fun P G w0 μ φ w y hM hy _=>?_⟩;have hA:=hM.arr (.inl hm);have hl:=hA.tG;obtain⟨a1,a2,a3,a4,a5,a6,a7⟩:=hA;refine⟨by omega,?_⟩;cases hy with
   |yp hg=>simp_all
   |os hg=>simp_all
  ·rename_i s et es hm;refine⟨_,_,fun m2 db R' k'=>by have:=db (false,id) (by simp);simp_all[Ng],h,by simp,fun P G w0 μ φ w y hM hy _=>?_⟩;have hA:=hM.arr (.inr hm);have hl:=hA.tG;obtain⟨a1,a2,a3,a4,a5,a6,a7⟩:=hA;refine⟨by omega,?_⟩;cases hy with
   |yp hg=>simp_all
   |os hg=>simp_all
  ·rename_i s et es hm;refine⟨_,_,fun m2 db R' k'=>by have:=db (false,id) (by simp);simp_all[Ng],h,by simp,fun P G w0 μ φ w y hM hy _=>?_⟩;have hA:bu P μ φ w id s et es:=hM.dX id _ hm;obtain⟨a1,a2,a3,a4,a5,a6,a7⟩:=hA;have hl:es.length≤(φ id).cap:=by grind
   refine⟨by omega,?_⟩;cases hy with
   |yp hg=>simp_all
   |os hg=>simp_all
  ·rename_i cs hm;split at h
   ·rename_i hlen;refine⟨_,_,fun m2 db R' k'=>by have:=db (false,id) (by simp);simp_all[Ng],h,by simp,fun P G w0 μ φ w y hM hy _=>?_⟩;obtain⟨g,c,T,hg,hh,hs,hv,Au,JZ⟩:=hM.dX id _ hm;refine⟨hlen,?_⟩;cases hy with
    |yp du=>simp_all
    |os du=>simp_all
   ·cases h
  ·cases h
 ·cases h
theorem agK(h:ZL sz m x k=some r):∃n ft,(∀m2:Mem,(∀x∈ft,m2 x.2=m x.2)→∀(R':Type)(k':Nat→bN→Option R'),ZL sz m2 x k'=k' n ft)∧k n ft=some r∧(∀x∈ft,x.1=false)∧∀(P:Program)(G:Nat→Option (List PV))(w0:bO)(μ:Ro)(φ:Nat→aP)(w:World)(y:Value),aL P G w0 μ φ m w→au P μ φ x y→(∀id,x.has id=true→(m id).isSome=true)→n≤maxLen∧∃a cap,y=.slice a n cap:=by
 unfold ZL at h;split at h
 ·rename_i id i off;split at h
  ·rename_i s et es hm;obtain⟨e,he,h⟩:=By.1 h;obtain⟨rs,hr,h⟩:=By.1 h;refine⟨_,_,fun m2 db R' k'=>by have:=db (false,id) (by simp);simp_all[ZL],h,by simp,fun P G w0 μ φ w y hM hy _=>?_⟩;have hN:bu P μ φ w id s et es:=hM.dX id _ hm;obtain⟨_,_,_,_,⟨⟨M9,hA⟩,_⟩,_⟩:=hN.row he hr;have hl:=hA.tG;have a1:=hA.1;refine⟨by omega,?_⟩;have hy:=hy.T0 (ν:=μ);cases hy with
   |yp hg=>have a7:=hA.2.2.2.2.2.2;simp_all
   |os hg=>simp_all
  ·cases h
 ·rename_i cV;obtain⟨n,ft,h1,h2,h3,h4⟩:=agJ h;refine⟨n,ft,fun m2 db R' k'=>?_,h2,h3,h4⟩;unfold ZL;simp_all
theorem agL(h:abS m x k=some r):∃n ft,(∀m2:Mem,(∀x∈ft,m2 x.2=m x.2)→∀(R':Type)(k':Nat→bN→Option R'),abS m2 x k'=k' n ft)∧k n ft=some r∧(∀x∈ft,x.1=false)∧n≤maxLen∧∀(P:Program)(G:Nat→Option (List PV))(w0:bO)(μ:Ro)(φ:Nat→aP)(w:World)(y:Value)(t kt et ty:TypeId),P.underlying t=some (.map kt et)→aL P G w0 μ φ m w→au P μ φ x y→(Builtin.len_ #[t] ty #[y]).run P w=.ok (.int .i64 n) w:=by
 unfold abS at h;split at h
 ·rename_i id;split at h
  ·rename_i kt es hm;split at h
   ·rename_i hl;refine⟨_,_,fun m2 db R' k'=>by have:=db (false,id) (by simp);simp_all[abS],h,by simp,hl,fun P G w0 μ φ w y t kt et ty hu hM hy=>?_⟩;cases hy with
    | @om _ g hg=>obtain⟨g',en,clock,kk,du,hh,hs,_⟩:=hM.dX id _ hm;simp_all[cO,Builtin.len_,run_underlying,getObj,Sem.run,goInt]
   ·cases h
  ·cases h
 ·refine⟨_,_,fun m2 _ R' k'=>by rfl,h,by simp,by simp,fun P G w0 μ φ w y t kt et ty hu hM hy=>?_⟩;cases hy with
  |pv hy=>cases hy;simp[Builtin.len_,run_underlying hu,goInt]
 ·cases h
variable{t:TypeId}
theorem agM{k:V→bN→Option R}(h:Q1 E t x m k=some r):∃v ft,(∀m2:Mem,(∀x∈ft,m2 x.2=m x.2)→∀(R':Type)(k':V→bN→Option R'),Q1 E t x m2 k'=k' v ft)∧k v ft=some r∧(∀x∈ft,x.1=false)∧(∀id,v.has id=false)∧∀(G:Nat→Option (List PV))(w0:bO)(μ:Ro)(φ:Nat→aP)(w:World)(y:Value)(ty:TypeId),aL E.P G w0 μ φ m w→au E.P μ φ x y→(∀id,x.has id=true→(m id).isSome=true)→∃z,(Builtin.len_ #[t] ty #[y]).run E.P w=.ok z w∧au E.P μ φ v z:=by
 unfold Q1 at h;split at h
 ·rename_i n e hu;split at h
  ·rename_i hn;exact⟨_,_,fun m2 _ R' k'=>by simp[Q1,hu,hn],h,by simp,by simp,fun G w0 μ φ w y ty hM hy _=>⟨_,by simp[Builtin.len_,run_underlying hu,goInt],.pv (.int (KW hn))⟩⟩
  ·cases h
 ·rename_i hu;split at h
  ·refine⟨_,_,fun m2 _ R' k'=>by simp[Q1,hu],h,by simp,by simp,fun G w0 μ φ w y ty hM hy _=>?_⟩;cases hy with
   |pv hy=>cases hy with
    | @str s hl=>exact⟨_,by simp[Builtin.len_,run_underlying hu,goInt,KV],.pv (.int (KW hl))⟩
  ·cases h
 ·rename_i e hu;obtain⟨n,ft,h1,h2,h3,h4⟩:=agK h;refine⟨_,ft,fun m2 db R' k'=>by simp only[Q1,hu];rw[h1 m2 db],h2,h3,by simp,fun G w0 μ φ w y ty hM hy hq=>?_⟩;obtain⟨hl,a,cap,rfl⟩:=h4 _ _ _ _ _ _ _ hM hy hq;exact⟨_,by simp[Builtin.len_,run_underlying hu,goInt],.pv (.int (KW hl))⟩
 ·rename_i kt et hu;obtain⟨n,ft,h1,h2,h3,hl,h4⟩:=agL h;refine⟨_,ft,fun m2 db R' k'=>by simp only[Q1,hu];rw[h1 m2 db],h2,h3,by simp,fun G w0 μ φ w y ty hM hy hq=>?_⟩;exact⟨_,h4 _ _ _ _ _ _ _ _ _ _ _ hu hM hy,.pv (.int (KW hl))⟩
 ·cases h
theorem KX{d i:Int}{v:Option V}(h:lK d v=some i):(v=none∧i=d)∨∃q,v=some (.pv (.int q i)):=by unfold lK at h;grind
theorem run_sliceBound{P:Program}{w:World}{q:IntKind}{i:Int}{y:Nat}{code:BoundsCode}(h0:0≤i)(h1:i≤(y:Int)):(Instr.sliceBound (.int q i) y code).run P w=.ok i.toNat w:=by simp[Instr.sliceBound,asIntOf,h0,h1]
variable{KY uP:Option Value}
theorem oa{isS:Bool}{len cap:Nat}{l h:Int}{lo hi:Option V}(hl:lK 0 lo=some l)(hh:lK len hi=some h)(rl:∀v,lo=some v→∃y,KY=some y∧au P μ φ v y)(rl0:lo=none→KY=none)(rh:∀v,hi=some v→∃y,uP=some y∧au P μ φ v y)(rh0:hi=none→uP=none)(b0:0≤l)(b1:l≤h)(b2:h≤(len:Int))(b3:len≤cap):(Instr.sliceBounds isS len cap KY uP none).run P w=.ok (l.toNat,h.toNat,cap) w:=by
 have e1:∃y,(uP=none∧h=len)∨(uP=some y∧∃q,y=.int q h):=by
  rcases KX hh with⟨rfl,rfl⟩|⟨q,rfl⟩
  ·simp_all
  ·obtain⟨y,rfl,hy⟩:=rh _ rfl;cases hy with
   |pv hy=>cases hy with
    |int hw=>simp
 have e2:∃y,(KY=none∧l=0)∨(KY=some y∧∃q,y=.int q l):=by
  rcases KX hl with⟨rfl,rfl⟩|⟨q,rfl⟩
  ·simp_all
  ·obtain⟨y,rfl,hy⟩:=rl _ rfl;cases hy with
   |pv hy=>cases hy with
    |int hw=>simp
 clear rl rl0 rh rh0 hl hh;obtain⟨y,⟨rfl,rfl⟩|⟨rfl,q,rfl⟩⟩:=e1<;>obtain⟨z,⟨rfl,rfl⟩|⟨rfl,q',rfl⟩⟩:=e2
 ·rfl
 ·simp_all[run_sliceBound,Instr.sliceBounds]
 ·have:= @run_sliceBound P w q h cap (if isS then BoundsCode.sliceAcap else .sliceAlen) (by omega) (by omega);simp[Instr.sliceBounds,this]
 ·have h1:= @run_sliceBound P w q h cap (if isS then BoundsCode.sliceAcap else .sliceAlen) (by omega) (by omega);have h2:= @run_sliceBound P w q' l h.toNat BoundsCode.sliceB b0 (by omega);simp[Instr.sliceBounds,h1,h2]
theorem str_slice{s:Bytes}{l h:Nat}(hl:l≤h)(hh:h≤s.length):(⟨s.toArray⟩:ByteArray).extract l h=⟨((s.take h).drop l).toArray⟩:=by apply ByteArray.ext;simp[ByteArray.data_extract,atO,List.extract_eq_take_drop,List.drop_take]
theorem ab4{x:Value}{l h:Nat}(hx:av P μ (.rs sz es) x)(hl:l≤h)(hh:h≤es.length):∃a cap,x=.slice a es.length cap∧es.length≤cap∧av P μ (.rs sz ((es.take h).drop l)) (.slice (if cap=l then a else a.map (·.add (l*sz))) (h-l) (cap-l)):=by
 have hlen:((es.take h).drop l).length=h-l:=by simp;omega
 cases hx with
 |ny=>
  simp at hh;subst hh;have:l=0:=by omega
  subst this;exact⟨none,0,rfl,by simp,by simpa using av.ny⟩
 | @Ni _ cap a hc=>
  simp at hh;subst hh;have:l=0:=by omega
  subst this;refine⟨some a,cap,rfl,by simp,?_⟩;have:(if cap=0 then some a else(some a).map (·.add (0*sz)))=some a:=by split<;>simp[Addr.add]
  rw[this];exact .Ni hc
 | @rs _ _ b o cap X h1 h2 h3 h4 h5 h6=>
  refine⟨_,cap,rfl,h1,?_⟩;have eR:∀(i:Nat)e,((es.take h).drop l)[i]?=some e→es[l+i]?=some e:=fun i e hi=>(jH (As hi)).2;by_cases hz:h=l
  ·have:(es.take h).drop l=[]:=aso (by omega);rw[this];have hz':h-l=0:=by omega
   rw[hz'];split
   ·exact .Ni (by omega)
   ·simp only[No];exact .Ni (by omega)
  ·have hc:cap≠l:=by omega
   rw[IS hc];simp only[No,Addr.add_mid];have:=av.rs (P:=P) (μ:=μ) (sz:=sz) (es:=(es.take h).drop l) (b:=b) (o:=o+l*sz) (cap:=cap-l) (fun i j=>X (l+i) j) (by omega) (by omega) (fun i e hi=>h3 _ e (eR i e hi)) (fun i e j p hi hj=>by grind) (fun i e j p hi hj=>h5 _ e j p (eR i e hi) hj) (fun i e j p hi hj=>h6 _ e j p (eR i e hi) hj);simp_all
theorem Bc{e:TypeId}{a:Option Addr}{len cap l h:Nat}(hu:P.underlying t=some (.slice e))(hz:bj P e≠0)(hb:(Instr.sliceBounds true len cap KY uP none).run P w=.ok (l,h,cap) w):(Instr.sliceAt t (.slice a len cap) KY uP none).run P w=.ok (.slice (if cap=l then a else a.map (·.add (l*bj P e))) (h-l) (cap-l)) w:=by simp_all[Instr.sliceAt,Instr.slice,run_underlying,lr]
theorem ZS{lo hi mx:Option V}{k:V→bN→Option R}(h:A6 E t x lo hi mx m k=some r):∃v ft,(∀m2:Mem,(∀x∈ft,m2 x.2=m x.2)→∀(R':Type)(k':V→bN→Option R'),A6 E t x lo hi mx m2 k'=k' v ft)∧k v ft=some r∧(∀x∈ft,x.1=false)∧(∀id,v.has id=true→x.has id=true)∧∀(G:Nat→Option (List PV))(w0:bO)(μ:Ro)(φ:Nat→aP)(w:World)(y:Value)(KY uP mx':Option Value),aL E.P G w0 μ φ m w→au E.P μ φ x y→(∀v,lo=some v→∃y,KY=some y∧au E.P μ φ v y)→(lo=none→KY=none)→(∀v,hi=some v→∃y,uP=some y∧au E.P μ φ v y)→(hi=none→uP=none)→(∀v,mx=some v→∃y,mx'=some y∧au E.P μ φ v y)→(mx=none→mx'=none)→∃z,(Instr.sliceAt t y KY uP mx').run E.P w=.ok z w∧au E.P μ φ v z:=by
 unfold A6 at h;split at h
 ·rename_i mv;split at h
  ·rename_i e id hu;split at h
   ·rename_i s et es hm;split at h
    ·rename_i qh hh qc c;split at h
     ·rename_i hb;refine⟨_,_,fun m2 db R' k'=>by have:=db (false,id) (by simp);simp_all[A6,IN],h,by simp,by simp[V.has],fun G w0 μ φ w y KY uP mx' hM hy r1 r2 r3 r4 r5 r6=>?_⟩;have hA:=hM.arr (.inl hm);have hle:=hA.tG;obtain⟨a1,a2,a3,a4,a5,a6,a7⟩:=hA;obtain⟨ym,rfl,hym⟩:=r5 _ rfl;have hlo:=r2 rfl;subst hlo;cases hym with
      |pv hym=>cases hym with
       |int hwc=>
        have hB:∀len cap:Nat,len=es.length→c≤(cap:Int)→(Instr.sliceBounds true len cap none uP (some (.int qc c))).run E.P w=.ok (0,hh.toNat,c.toNat) w:=by
         intro len cap hlen vb;have h1:= @run_sliceBound E.P w qc c cap BoundsCode.slice3Acap (by omega) vb;obtain⟨yh,rfl,hyh⟩:=r3 _ rfl;cases hyh with
         |pv hyh=>cases hyh with
          |int hwh=>have h2:= @run_sliceBound E.P w qh hh c.toNat BoundsCode.slice3B (by omega) (by omega);simp[Instr.sliceBounds,h1,h2]
        have hS:∀(a:Option Addr)(len cap:Nat),len=es.length→c≤(cap:Int)→(Instr.sliceAt t (.slice a len cap) none uP (some (.int qc c))).run E.P w=.ok (.slice (if c.toNat=0 then a else a.map (·.add (0*bj E.P e))) hh.toNat c.toNat) w:=by intro a len cap hlen vb;simp[Instr.sliceAt,Instr.slice,run_underlying hu,hB len cap hlen vb,lr (show bj E.P e≠0 by omega)]
        cases hy with
        |yp hg=>
         rw[hg]at a7;have h0:es.length=0:=by omega
         refine⟨_,hS none 0 0 h0.symm (by omega),?_⟩;have e1:hh.toNat=0:=by omega
         have e2:c.toNat=0:=by omega
         rw[e1,e2];exact .wa hg
        | @os _ g hg=>
         refine⟨_,hS _ _ _ a1 (by omega),?_⟩;have:(if c.toNat=0 then some (⟨g,0,none⟩:Addr)else(some ⟨g,0,none⟩:Option Addr).map (·.add (0*bj E.P e)))=some ⟨g,0*(φ id).sz,none⟩:=by split<;>simp[Addr.add]
         rw[this];exact .gx hg (by omega) (.inl rfl) (by omega) (by omega)
     ·cases h
    ·cases h
   ·cases h
  ·cases h
 ·split at h
  ·rename_i s hu;split at h
   ·rename_i l hh hl hhh;split at h
    ·rename_i hb;refine⟨_,_,fun m2 _ R' k'=>by simp_all[A6,IN],h,by simp,by simp,fun G w0 μ φ w y KY uP mx' hM hy r1 r2 r3 r4 _ r6=>?_⟩;have hmx:=r6 rfl;subst hmx;cases hy with
     |pv hy=>cases hy with
      |str hlen=>have hB:=oa (P:=E.P) (w:=w) (isS:=false) (cap:=s.length) hl hhh r1 r2 r3 r4 hb.1 hb.2.1 hb.2.2 (ast _);refine⟨_,?_,.pv (.str (s:=(s.take hh.toNat).drop l.toNat) (by simp;omega))⟩;simp only[Instr.sliceAt,Instr.slice,Sem.run_bind,run_underlying hu,Result.andThen_ok,KV,hB];simp only[auP,cQ,IT,Sem.run_bind,Sem.run_pure,Result.andThen_ok,hB];rw[str_slice (by omega) (by omega)]
    ·cases h
   ·cases h
  ·rename_i e sz es hu;split at h
   ·rename_i l hh hl hhh;split at h
    ·rename_i hb;refine⟨_,_,fun m2 _ R' k'=>by simp_all[A6,IN],h,by simp,by simp,fun G w0 μ φ w y KY uP mx' hM hy r1 r2 r3 r4 _ r6=>?_⟩;have hmx:=r6 rfl;subst hmx;cases hy with
     |pv hy=>obtain⟨a,cap,rfl,hc,hr⟩:=ab4 (l:=l.toNat) (h:=hh.toNat) hy (by omega) (by omega);have hB:=oa (P:=E.P) (w:=w) (isS:=true) (cap:=cap) hl hhh r1 r2 r3 r4 hb.1 hb.2.1 hb.2.2.1 hc;exact⟨_,Bc hu hb.2.2.2.2 hB,by rw[←hb.2.2.2.1];exact .pv hr⟩
    ·cases h
   ·cases h
  ·rename_i e id hu;have key:∀(s:Nat)(et:TypeId)(es:List PV)(l hh:Int),(m id=some (.arr s et es)∨m id=some (.vK s et es))→lK 0 lo=some l→lK es.length hi=some hh→(0≤l∧l≤hh∧hh≤(es.length:Int)∧s=bj E.P e)→∀(G:Nat→Option (List PV))(w0:bO)(μ:Ro)(φ:Nat→aP)(w:World)(y:Value)(KY uP:Option Value),aL E.P G w0 μ φ m w→au E.P μ φ (.os id) y→(∀v,lo=some v→∃y,KY=some y∧au E.P μ φ v y)→(lo=none→KY=none)→(∀v,hi=some v→∃y,uP=some y∧au E.P μ φ v y)→(hi=none→uP=none)→∃z,(Instr.sliceAt t y KY uP none).run E.P w=.ok z w∧au E.P μ φ (.gx id l.toNat (hh.toNat-l.toNat)) z:=by
    intro s et es l hh hm hl hhh hb G w0 μ φ w y KY uP hM hy r1 r2 r3 r4;have hA:=hM.arr hm;have hle:=hA.tG;obtain⟨a1,a2,a3,a4,a5,a6,a7⟩:=hA;cases hy with
    |yp hg=>
     rw[hg]at a7;have h0:es.length=0:=by omega
     have hB:=oa (P:=E.P) (w:=w) (isS:=true) (cap:=0) hl hhh r1 r2 r3 r4 hb.1 hb.2.1 hb.2.2.1 (by omega);rw[h0]at hB;refine⟨_,Bc hu (by omega) hB,?_⟩;have e1:l.toNat=0:=by omega
     have e2:hh.toNat=0:=by omega
     rw[e1,e2];exact .wa hg
    | @os _ g hg=>
     have hB:=oa (P:=E.P) (w:=w) (isS:=true) (cap:=(φ id).cap) hl hhh r1 r2 r3 r4 hb.1 hb.2.1 hb.2.2.1 (by omega);rw[←a1]at hB;refine⟨_,Bc hu (by omega) hB,?_⟩;by_cases hc:(φ id).cap=l.toNat
     ·rw[IN hc];by_cases h0:l.toNat=0
      ·rw[h0];exact .gx hg (by omega) (.inl (by simp)) (by omega) (by omega)
      ·exact .gx hg (by omega) (.inr ⟨hc,by omega⟩) (by omega) (by omega)
     ·rw[IS hc];simp only[No,Addr.add_mid,as5];refine .gx hg (by omega) (.inl ?_) (by omega) (by omega);rw[a2,hb.2.2.2]
   split at h
   ·rename_i s et es hm;split at h
    ·rename_i l hh hl hhh;split at h
     ·rename_i hb;exact⟨_,_,fun m2 db R' k'=>by have:=db (false,id) (by simp);simp_all[A6,IN],h,by simp,by simp[V.has],fun G w0 μ φ w y KY uP mx' hM hy r1 r2 r3 r4 _ r6=>by rw[r6 rfl];exact key s et es l hh (.inl hm) hl hhh hb G w0 μ φ w y KY uP hM hy r1 r2 r3 r4⟩
     ·cases h
    ·cases h
   ·rename_i s et es hm;split at h
    ·rename_i l hh hl hhh;split at h
     ·rename_i hb;exact⟨_,_,fun m2 db R' k'=>by have:=db (false,id) (by simp);simp_all[A6,IN],h,by simp,by simp[V.has],fun G w0 μ φ w y KY uP mx' hM hy r1 r2 r3 r4 _ r6=>by rw[r6 rfl];exact key s et es l hh (.inr hm) hl hhh hb G w0 μ φ w y KY uP hM hy r1 r2 r3 r4⟩
     ·cases h
    ·cases h
   ·cases h
  ·cases h
end
end Go.Ab
