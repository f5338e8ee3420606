import Derived.Test.YtanikidijjaohaaGreatAbEval
import Derived.Below
import Derived.Laws.CopyRow
import Derived.Deep.MidRow
set_option linter.unusedVariables false
set_option linter.unusedSimpArgs false
namespace Go.Ab
open Go.RowKit (Below)
abbrev Ro:=Nat→Option Obj
def VS:Bool:=true
structure kv(B:Nat)(w w':World):Prop extends Below B w w' where
 drawn:VS=true→w.drawn≤w'.drawn
namespace kv
theorem refl(B:Nat)(w:World):kv B w w:=⟨Below.refl B w,fun _=>agM _⟩
theorem trans{B:Nat}{a b c:World}(h:kv B a b)(k:kv B b c):kv B a c:=⟨h.toBelow.trans k.toBelow,fun u=>ahl (h.drawn u) (k.drawn u)⟩
theorem mono{B B':Nat}{w w':World}(h:kv B w w')(hB:B'≤B):kv B' w w':=⟨h.toBelow.mono hB,h.drawn⟩
theorem drew{B:Nat}{a w:World}(h:kv B a w):kv B a w.drew:=⟨h.toBelow.drew,fun u=>Nat.le_succ_of_le (h.drawn u)⟩
theorem heap_alloc(w:World)(o:Obj)(k:Nat)(h:k<w.heap.size):(w.alloc o).heap[k]?=w.heap[k]?:=Below.heap_alloc w o k h
theorem alloc{B:Nat}{a w:World}(h:kv B a w)(hB:B≤w.heap.size)(o:Obj):kv B a (w.alloc o):=⟨h.toBelow.alloc hB o,h.drawn⟩
end kv
def Jmp.code:Jmp→Code
 |.ret=>.ret
 |.exit id=>.exit id
def KT.obj(rc:Loop):KT→Loop
 |.ready=>{rc with state:=.ready,pending:=none}
 |.busy=>{rc with state:=.busy,pending:=none}
 |.done j=>{rc with state:=.done,pending:=some j.code}
def cellAt(μ:Ro)(b o:Nat):Option Value:=match μ b with|some (.cells c _ _)=>c[o]?|_=>none
def yU(f:FuncId)(xs:Array Value):Value:=if f<Cj then .func (.func f) #[] xs else .func (.func (f-Cj)) xs #[]
variable{xs:Array Value}
theorem pP{f:FuncId}(h:Nat.blt f Cj=true):yU f xs=.func (.func f) #[] xs:=BY (by rwa[ahC]at h)
theorem Is{f:FuncId}(h:Nat.blt f Cj=false):yU f xs=.func (.func (f-Cj)) xs #[]:=IN (by rw[←ahM,ahC]at h;omega)
theorem pQ(f:FuncId)(xs:Array Value):∃g a b,yU f xs=.func (.func g) a b:=by
 unfold yU;split
 ·simp
 simp
theorem E4(f:FuncId)(xs:Array Value):(yU f xs).oneCell'=true:=by obtain⟨g,a,b,h⟩:=pQ f xs;rw[h];rfl
inductive af(P:Program)(μ:Ro):PV→Value→Prop
 |int {k:IntKind} {n:Int}:(Lit.int k n).wf=true→af P μ (.int k n) (.int k n)
 |bool {b:Bool}:af P μ (.bool b) (.bool b)
 |str {s:Bytes}:s.length≤maxLen→af P μ (.str s) (.string ⟨s.toArray⟩)
 |agg {cs:List PV} {xs:Array Value}:cs.length=xs.size→(∀(i:Nat)p x,cs[i]?=some p→xs[i]?=some x→af P μ p x)→(∀(i:Nat)(x:Value),xs[i]?=some x→x.oneCell'=true)→af P μ (.agg cs) (.agg xs)
 |bn {cs:List PV} {xs:Array Value}:cs.length=xs.size→(∀(i:Nat)p x,cs[i]?=some p→xs[i]?=some x→af P μ p x)→af P μ (.bn cs) (.tuple xs)
 |o9:af P μ .o9 (.pointer none)
 |rp {cs:List PV} {b o:Nat} (X:Nat→Value):(∀(i:Nat)p,cs[i]?=some p→cellAt μ b (o+i)=some (X i))→(∀(i:Nat)p,cs[i]?=some p→af P μ p (X i))→(∀i:Nat,i<cs.length→(X i).oneCell'=true)→af P μ (.rp cs) (.pointer (some ⟨b,o,none⟩))
 |ko {sz:Nat}:af P μ (.rs sz []) (.slice none 0 0)
 |Ez {sz cap:Nat} {a:Addr}:cap≤maxLen→af P μ (.rs sz []) (.slice (some a) 0 cap)
 |rs {sz:Nat} {es:List PV} {b o cap:Nat} (X:Nat→Nat→Value):es.length≤cap→cap≤maxLen→(∀(i:Nat)e,es[i]?=some e→e.cells.length=sz)→(∀(i:Nat)e(j:Nat)p,es[i]?=some e→e.cells[j]?=some p→cellAt μ b (o+i*sz+j)=some (X i j))→(∀(i:Nat)e(j:Nat)p,es[i]?=some e→e.cells[j]?=some p→af P μ p (X i j))→(∀(i:Nat)e(j:Nat)p,es[i]?=some e→e.cells[j]?=some p→(X i j).oneCell'=true)→af P μ (.rs sz es) (.slice (some ⟨b,o,none⟩) es.length cap)
 |ux:af P μ .ux (.map none)
 |rm {kt:TypeId} {ks vs:List PV} {b clock:Nat} {en:Array MapEntry} {kk:List Kd}:μ b=some (.map en clock)→en.size=ks.length→vs.length=ks.length→rj P kt=some kk→(∀(i:Nat)k,ks[i]?=some k→uh P kt kk k=true)→(∀(i:Nat)k e,ks[i]?=some k→en[i]?=some e→af P μ k e.key)→(∀(i:Nat)v e,vs[i]?=some v→en[i]?=some e→af P μ v e.val)→af P μ (.rm kt ks vs) (.map (some b))
 |zL:af P μ .zL .nilFunc
 |fn {f:FuncId} {cs:List PV} {xs:Array Value}:cs.length=xs.size→(∀(i:Nat)p x,cs[i]?=some p→xs[i]?=some x→af P μ p x)→af P μ (.fn f cs) (yU f xs)
 |SH:af P μ (.Vv false) .nilIface
 |VT {t:TypeId} {x:Value}:af P μ (.Vv true) (.iface t x)
 |bad {x:Value}:af P μ .bad x
structure w7(P:Program)(μ:Ro)(g:Nat)(cs:List PV):Prop where
 rep:af P μ (.rp cs) (.pointer (some ⟨g,0,none⟩))
 size:∃c T z,μ g=some (.cells c T z)∧c.size=cs.length
structure A6 where
 g:Option Nat
 cap:Nat
 len:Nat
 sz:Nat
 deriving Inhabited
structure aA extends A6 where
 row:Nat→Nat→A6:=fun _ _=>default
 deriving Inhabited
abbrev BI(g:Option Nat)(cap len sz:Nat):aA:={g,cap,len,sz}
def A6.up(p:A6):aA:={toA6:=p}
inductive ae(P:Program)(μ:Ro)(φ:Nat→aA):V→Value→Prop
 |pv {p:PV} {x:Value}:af P μ p x→ae P μ φ (.pv p) x
 |gF:ae P μ φ .gF (.slice none 0 0)
 |op {id off g:Nat}:(φ id).g=some g→ae P μ φ (.op id off) (.pointer (some ⟨g,off,none⟩))
 |oe {id i off g:Nat}:(φ id).g=some g→ae P μ φ (.oe id i off) (.pointer (some ⟨g,i*(φ id).sz+off,none⟩))
 |q6 {id:Nat}:(φ id).g=none→ae P μ φ (.os id) (.slice none 0 0)
 |os {id g:Nat}:(φ id).g=some g→ae P μ φ (.os id) (.slice (some ⟨g,0,none⟩) (φ id).len (φ id).cap)
 |pO {id:Nat}:(φ id).g=none→ae P μ φ (.fx id 0 0) (.slice none 0 0)
 |fx {id lo len cap g:Nat} {a:Addr}:(φ id).g=some g→lo+len≤(φ id).len→(a=⟨g,lo*(φ id).sz,none⟩∨((φ id).cap=lo∧0<lo))→len≤cap→lo+cap≤(φ id).cap→ae P μ φ (.fx id lo len) (.slice (some a) len cap)
 |GI {id i off:Nat}:((φ id).row i off).g=none→ae P μ φ (.uF id i off) (.slice none 0 0)
 |uF {id i off g:Nat}:((φ id).row i off).g=some g→ae P μ φ (.uF id i off) (.slice (some ⟨g,0,none⟩) ((φ id).row i off).len ((φ id).row i off).cap)
 |yL {id i off s j off2 g:Nat}:((φ id).row i off).g=some g→((φ id).row i off).sz=s→ae P μ φ (.yL id i off s j off2) (.pointer (some ⟨g,j*s+off2,none⟩))
 |om {id g:Nat}:(φ id).g=some g→ae P μ φ (.om id) (.map (some g))
 |yl {id g:Nat}:(φ id).g=some g→ae P μ φ (.yl id) (.func (.yield g) #[] #[])
 |it {id g:Nat}:(φ id).g=some g→ae P μ φ (.it id) (.pointer (some ⟨g,0,none⟩))
 |fn {f:FuncId} {cs:List V} {xs:Array Value}:cs.length=xs.size→(∀(i:Nat)p x,cs[i]?=some p→xs[i]?=some x→ae P μ φ p x)→ae P μ φ (.fn f cs) (yU f xs)
 |agg {cs:List V} {xs:Array Value}:cs.length=xs.size→(∀(i:Nat)p x,cs[i]?=some p→xs[i]?=some x→ae P μ φ p x)→(∀(i:Nat)(x:Value),xs[i]?=some x→x.oneCell'=true)→ae P μ φ (.agg cs) (.agg xs)
 |bn {cs:List V} {xs:Array Value}:cs.length=xs.size→(∀(i:Nat)p x,cs[i]?=some p→xs[i]?=some x→ae P μ φ p x)→ae P μ φ (.bn cs) (.tuple xs)
 |top {x:Value}:ae P μ φ .top x
def aK(P:Program)(μ:Ro)(φ:Nat→aA)(w:World)(id sz:Nat)(et:TypeId)(es:List PV):Prop:=
 (φ id).len=es.length∧(φ id).sz=sz∧sz=aR P et∧0<sz∧(∀(i:Nat)e,es[i]?=some e→e.cells.length=sz)∧(φ id).cap≤maxLen∧
 match(φ id).g with
 |none=>es=[]∧(φ id).cap=0
 |some g=>∃(c:Array Value)(T:TypeId),w.heap[g]?=some (.cells c T (0,0))∧(φ id).cap*sz≤c.size∧es.length≤(φ id).cap∧(∀(i:Nat)e(j:Nat)p x,es[i]?=some e→e.cells[j]?=some p→c[i*sz+j]?=some x→af P μ p x)∧(∀(i:Nat)(x:Value),i<es.length*sz→c[i]?=some x→x.oneCell'=true)
def bF.rowAt:bF→Nat→Nat→Bool
 |.nest _ _ es,i,off=>match es[i]? with
  |some e=>match e.cells[off]? with
   |some p=>p.isRow
   |none=>false
  |none=>false
 |.eY _ _ es,i,0=>match es[i]? with
  |some x=>x.2.isRow
  |none=>false
 |_,_,_=>false
def eB(P:Program)(μ:Ro)(R:A6)(w:World)(s:Nat)(rs:List PV)(x:Value):Prop:=(∃et,aK P μ (fun _=>R.up) w 0 s et rs)∧ae P μ (fun _=>R.up) (.os 0) x
def dW(P:Program)(μ:Ro)(R:A6)(w:World)(p:PV)(x:Value):Prop:=match p with
 |.pd s rs=>eB P μ R w s rs x
 |p=>af P μ p x
def aX(P:Program)(μ:Ro)(φ:Nat→aA)(w:World)(id sz:Nat)(et:TypeId)(es:List PV):Prop:=
 (φ id).len=es.length∧(φ id).sz=sz∧sz=aR P et∧0<sz∧(∀(i:Nat)e,es[i]?=some e→e.cells.length=sz)∧(φ id).cap≤maxLen∧
 match(φ id).g with
 |none=>es=[]∧(φ id).cap=0
 |some g=>∃(c:Array Value)(T:TypeId),w.heap[g]?=some (.cells c T (0,0))∧(φ id).cap*sz≤c.size∧es.length≤(φ id).cap∧(∀(i:Nat)e(j:Nat)p x,es[i]?=some e→e.cells[j]?=some p→c[i*sz+j]?=some x→dW P μ ((φ id).row i j) w p x)∧(∀(i:Nat)(x:Value),i<es.length*sz→c[i]?=some x→x.oneCell'=true)
def lq(en:Array MapEntry)(clock:Nat):Prop:=∀(i:Nat)e,en[i]?=some e→e.born<clock∧∀(j:Nat)e',en[j]?=some e'→e'.born=e.born→j=i
def kH(en:Array MapEntry)(seen:Array Nat):List MapEntry:=en.toList.filter fun e=> !seen.contains e.born
def gm(P:Program)(μ:Ro)(φ:Nat→aA)(w:World)(id:Nat):bF→Prop
 |.box cs=>∃(g:Nat)(c:Array Value)(T:TypeId),(φ id).g=some g∧w.heap[g]?=some (.cells c T (0,0))∧c.size=cs.length∧(∀(i:Nat)v x,cs[i]?=some v→c[i]?=some x→ae P μ φ v x)∧(∀(i:Nat)(x:Value),c[i]?=some x→x.oneCell'=true)∧(φ id).len=cs.length
 |.arr sz et es=>aK P μ φ w id sz et es
 |.pt sz et es=>aK P μ φ w id sz et es∧∀g,(φ id).g=some g→(μ g).isSome
 |.map kt es=>∃(g:Nat)(en:Array MapEntry)(clock:Nat)(kk:List Kd),(φ id).g=some g∧w.heap[g]?=some (.map en clock)∧en.size=es.length∧rj P kt=some kk∧(∀(i:Nat)k v,es[i]?=some (k,v)→uh P kt kk k=true)∧lq en clock∧(∀(i:Nat)k v e,es[i]?=some (k,v)→en[i]?=some e→af P μ k e.key∧af P μ v e.val)
 |.nest sz et es=>aX P μ φ w id sz et es
 |.eY kt e0 es=>∃(g:Nat)(en:Array MapEntry)(clock:Nat)(kk:List Kd),(φ id).g=some g∧w.heap[g]?=some (.map en clock)∧en.size=es.length∧rj P kt=some kk∧(∀(i:Nat)k v,es[i]?=some (k,v)→uh P kt kk k=true)∧lq en clock∧(∀(i:Nat)k v e,es[i]?=some (k,v)→en[i]?=some e→af P μ k e.key∧(match v with
  |.pd s rs=>aK P μ (fun _=>((φ id).row i 0).up) w 0 s e0 rs∧ae P μ (fun _=>((φ id).row i 0).up) (.os 0) e.val
  |v=>af P μ v e.val))
 |.iter t es cur=>∃(g mg:Nat)(en:Array MapEntry)(clock:Nat)(seen:Array Nat),(φ id).g=some g∧w.heap[g]?=some (.mapIter (some mg) clock seen clock)∧μ mg=some (.map en clock)∧lq en clock∧(kH en seen).length=es.length∧(∀(i:Nat)k v e,es[i]?=some (k,v)→(kH en seen)[i]?=some e→af P μ k e.key∧af P μ v e.val)∧∀k v,cur=some (k,v)→∃(i:Nat)(e:MapEntry),en[i]?=some e∧seen.back? =some e.born∧af P μ k e.key∧af P μ v e.val
 |.loop st=>∃(g:Nat)(rc:Loop),(φ id).g=some g∧w.heap[g]?=some (.loop (st.obj rc))
def bF.jg:bF→Bool
 |.pt .. =>false
 |_=>true
structure bu where
 w:World
 mu:Ro
 sv:Nat→Value
 dx:Ro:=fun _=>none
 lR:Ro:=fun _=>none
 rc:Nat→Option (Nat×Loop):=fun _=>none
abbrev bu.heap(B:bu):Array Obj:=B.w.heap
def bF.dU(b:bF)(p:aA)(g:Nat):Prop:=p.g=some g∨∃i off,b.rowAt i off=true∧(p.row i off).g=some g
def bF.apart(b:bF)(p:aA):Prop:=∀i off g,b.rowAt i off=true→(p.row i off).g=some g→p.g≠some g∧∀i' rH,b.rowAt i' rH=true→(p.row i' rH).g=some g→i'=i∧rH=off
structure aw(P:Program)(G:Nat→Option (List PV))(w0:bu)(μ:Ro)(φ:Nat→aA)(m:Mem)(w:World):Prop where
 below:kv w0.heap.size w0.w w
 ro:∀b o,μ b=some o→w.heap[b]?=some o
 aH:∀g cs,G g=some cs→w7 P μ g cs
 du:∀id b,m id=some b→gm P μ φ w id b
 own:∀id b g,m id=some b→b.dU (φ id) g→w0.heap.size≤g∧(b.jg=true→μ g=none)
 inj:∀Sb id2 b1 b2 g,m Sb=some b1→m id2=some b2→b1.dU (φ Sb) g→b2.dU (φ id2) g→Sb=id2
 apart:∀id b,m id=some b→b.apart (φ id)
 fy:∀j cs id,m j=some (.box cs)→ck id cs=true→(m id).isSome=true
 base:∀b o,μ b=some o→b<w0.heap.size→w0.mu b=some o
 dx:∀b o,w0.dx b=some o→μ b=some o
 A5:∀id st,m id=some (.loop st)→∃g rc,(φ id).g=some g∧w0.rc id=some (g,rc)∧w.heap[g]?=some (.loop (st.obj rc))
def ax(nt:Nat)(w0:bu)(a:Act):Nat→Value:=fun t=>if t<nt then a.tmps.getD t undef else w0.sv t
theorem pN{nt:Nat}{w0:bu}{a:Act}{t:Nat}(h:t<nt):ax nt w0 a t=a.tmps.getD t undef:=BY h
def Marks(B:Nat)(lR μ:Ro)(ds:List Deferred):Prop:=∃Ds:List Nat,ds=Ds.map (fun D=>{target:=.collected D,args:= #[]})∧Ds.Nodup∧∀D∈Ds,B≤D∧lR D=none∧μ D=some (.deferred (some []))
theorem Marks.nil(B:Nat)(lR μ:Ro):Marks B lR μ []:=⟨[],rfl,.nil,by simp⟩
theorem Marks.mono{B:Nat}{lR μ μ':Ro}(h:∀b o,μ b=some o→μ' b=some o){ds:List Deferred}:Marks B lR μ ds→Marks B lR μ' ds
 |⟨Ds,e,hn,hD⟩=>⟨Ds,e,hn,fun D hd=>⟨(hD D hd).1,(hD D hd).2.1,h _ _ (hD D hd).2.2⟩⟩
structure Rel(P:Program)(G:Nat→Option (List PV))(nt:Nat)(w0:bu)(μ:Ro)(φ:Nat→aA)(f:Fr)(m:Mem)(a:Act)(w:World):Prop extends aw P G w0 μ φ m w where
 size:a.tmps.size=nt
 defers:Marks w0.heap.size w0.lR μ a.defers
 lR:∀b o,w0.lR b=some o→w0.dx b=some o
 fr:∀t,ae P μ φ (f t) (ax nt w0 a t)
 live:∀t id,(f t).has id=true→(m id).isSome=true
section
variable {P:Program} {μ μ':Ro} {φ φ':Nat→aA}
variable{x:Value}
theorem A7(h:∀b o,μ b=some o→μ' b=some o){b o:Nat}(hx:cellAt μ b o=some x):cellAt μ' b o=some x:=by grind [cellAt]
variable{p:PV}
theorem af.mono(h:∀b o,μ b=some o→μ' b=some o)(hp:af P μ p x):af P μ' p x:=by
 induction hp with
 |int h=>exact .int h
 |bool=>exact .bool
 |str h=>exact .str h
 |agg h1 _ h3 ih=>exact .agg h1 ih h3
 |bn h1 _ ih=>exact .bn h1 ih
 |o9=>exact .o9
 |rp X h1 _ h3 ih=>exact .rp X (fun i p hi=>A7 h (h1 i p hi)) ih h3
 |ko=>exact .ko
 |Ez h=>exact .Ez h
 |rs X h1 h2 h3 h4 _ h6 ih=>exact .rs X h1 h2 h3 (fun i e j p hi hj=>A7 h (h4 i e j p hi hj)) ih h6
 |ux=>exact .ux
 |rm h1 h2 h3 h4 h5 _ _ ih1 ih2=>exact .rm (h _ _ h1) h2 h3 h4 h5 ih1 ih2
 |zL=>exact .zL
 |fn h1 _ ih=>exact .fn h1 ih
 |SH=>exact .SH
 |VT=>exact .VT
 |bad=>exact .bad
theorem w7.mono(h:∀b o,μ b=some o→μ' b=some o){g:Nat}{cs:List PV}(hv:w7 P μ g cs):w7 P μ' g cs:=⟨hv.rep.mono h,let⟨c,T,z,h1,h2⟩:=hv.size;⟨c,T,z,h _ _ h1,h2⟩⟩
theorem bI{id:Nat}{v:V}:∀{cs:List V},v∈cs→v.has id=true→ck id cs=true
 |c::r,hm,hv=>by
  rcases afh.1 hm with rfl|hm
  ·simp[ck,hv]
  ·simp[ck,bI hm hv]
theorem cF{id:Nat}:∀{cs:List V},ck id cs=true↔∃v∈cs,v.has id=true
 |[]=>by simp[ck]
 |c::r=>by simp[ck,cF (cs:=r)]
theorem wy{id:Nat}{v:V}:∀{cs:List V},v∈cs→v.uG id=true→yM id cs=true
 |c::r,hm,hv=>by
  rcases afh.1 hm with rfl|hm
  ·simp[yM,hv]
  ·simp[yM,wy hm hv]
theorem ae.mono(h:∀b o,μ b=some o→μ' b=some o){v:V}{x:Value}(hv:ae P μ φ v x)(hφ:∀id,v.has id=true→φ' id=φ id):ae P μ' φ' v x:=by
 induction hv with
 |pv hp=>exact .pv (hp.mono h)
 |gF=>exact .gF
 |op hg=>exact .op (by simp_all[V.has])
 | @oe id i off g hg=>have e:=hφ id (by simp[V.has]);have:=ae.oe (P:=P) (μ:=μ') (φ:=φ') (id:=id) (i:=i) (off:=off) (g:=g) (by rw[e];omega);simp_all
 | @q6 id hg=>exact .q6 (by rw[hφ id (by simp[V.has])];omega)
 | @os id g hg=>have e:=hφ id (by simp[V.has]);have:=ae.os (P:=P) (μ:=μ') (φ:=φ') (id:=id) (g:=g) (by rw[e];omega);simp_all
 | @pO id hg=>exact .pO (by rw[hφ id (by simp[V.has])];omega)
 | @fx id lo len cap g a hg hl ha hc Y3=>have e:=hφ id (by simp[V.has]);exact ae.fx (P:=P) (μ:=μ') (φ:=φ') (id:=id) (lo:=lo) (len:=len) (cap:=cap) (g:=g) (a:=a) (by rw[e];omega) (by rw[e];omega) (by rw[e];omega) hc (by rw[e];omega)
 | @GI id i off hg=>exact .GI (by rw[hφ id (by simp[V.has])];omega)
 | @uF id i off g hg=>have e:=hφ id (by simp[V.has]);have:=ae.uF (P:=P) (μ:=μ') (φ:=φ') (id:=id) (i:=i) (off:=off) (g:=g) (by rw[e];omega);simp_all
 | @yL id i off s j off2 g hg hs=>have e:=hφ id (by simp[V.has]);exact .yL (by rw[e];omega) (by rw[e];omega)
 | @om id g hg=>exact .om (by rw[hφ id (by simp[V.has])];omega)
 | @yl id g hg=>exact .yl (by rw[hφ id (by simp[V.has])];omega)
 | @it id g hg=>exact .it (by rw[hφ id (by simp[V.has])];omega)
 |fn h1 _ ih=>exact .fn h1 (fun i p x hi hx=>ih i p x hi hx (fun id an=>hφ id (by simp only[V.has];exact bI (aaQ hi) an)))
 |agg h1 _ h3 ih=>exact .agg h1 (fun i p x hi hx=>ih i p x hi hx (fun id an=>hφ id (by simp only[V.has];exact bI (aaQ hi) an))) h3
 |bn h1 _ ih=>exact .bn h1 (fun i p x hi hx=>ih i p x hi hx (fun id an=>hφ id (by simp only[V.has];exact bI (aaQ hi) an)))
 |top=>exact .top
variable{v:V}
theorem ae.XM(h:∀b o,μ b=some o→μ' b=some o)(hv:ae P μ φ v x)(hφ:∀id,v.has id=true→(φ' id).toA6=(φ id).toA6∧(v.uG id=true→φ' id=φ id)):ae P μ' φ' v x:=by
 induction hv with
 |pv hp=>exact .pv (hp.mono h)
 |gF=>exact .gF
 |op hg=>exact .op (by simp_all[V.has])
 | @oe id i off g hg=>have e:=(hφ id (by simp[V.has])).1;have:=ae.oe (P:=P) (μ:=μ') (φ:=φ') (id:=id) (i:=i) (off:=off) (g:=g) (by rw[e];omega);simp_all
 | @q6 id hg=>exact .q6 (by rw[(hφ id (by simp[V.has])).1];omega)
 | @os id g hg=>have e:=(hφ id (by simp[V.has])).1;have:=ae.os (P:=P) (μ:=μ') (φ:=φ') (id:=id) (g:=g) (by rw[e];omega);simp_all
 | @pO id hg=>exact .pO (by rw[(hφ id (by simp[V.has])).1];omega)
 | @fx id lo len cap g a hg hl ha hc Y3=>have e:=(hφ id (by simp[V.has])).1;exact ae.fx (P:=P) (μ:=μ') (φ:=φ') (id:=id) (lo:=lo) (len:=len) (cap:=cap) (g:=g) (a:=a) (by rw[e];omega) (by rw[e];omega) (by rw[e];omega) hc (by rw[e];omega)
 | @GI id i off hg=>exact .GI (by rw[(hφ id (by simp[V.has])).2 (by simp[V.uG])];omega)
 | @uF id i off g hg=>have e:=(hφ id (by simp[V.has])).2 (by simp[V.uG]);have:=ae.uF (P:=P) (μ:=μ') (φ:=φ') (id:=id) (i:=i) (off:=off) (g:=g) (by rw[e];omega);simp_all
 | @yL id i off s j off2 g hg hs=>have e:=(hφ id (by simp[V.has])).2 (by simp[V.uG]);exact .yL (by rw[e];omega) (by rw[e];omega)
 | @om id g hg=>exact .om (by rw[(hφ id (by simp[V.has])).1];omega)
 | @yl id g hg=>exact .yl (by rw[(hφ id (by simp[V.has])).1];omega)
 | @it id g hg=>exact .it (by rw[(hφ id (by simp[V.has])).1];omega)
 |fn h1 _ ih=>exact .fn h1 (fun i p x hi hx=>ih i p x hi hx (fun id an=>⟨(hφ id (by simp only[V.has];exact bI (aaQ hi) an)).1,fun h2=>(hφ id (by simp only[V.has];exact bI (aaQ hi) an)).2 (by simp only[V.uG];exact wy (aaQ hi) h2)⟩))
 |agg h1 _ h3 ih=>exact .agg h1 (fun i p x hi hx=>ih i p x hi hx (fun id an=>⟨(hφ id (by simp only[V.has];exact bI (aaQ hi) an)).1,fun h2=>(hφ id (by simp only[V.has];exact bI (aaQ hi) an)).2 (by simp only[V.uG];exact wy (aaQ hi) h2)⟩)) h3
 |bn h1 _ ih=>exact .bn h1 (fun i p x hi hx=>ih i p x hi hx (fun id an=>⟨(hφ id (by simp only[V.has];exact bI (aaQ hi) an)).1,fun h2=>(hφ id (by simp only[V.has];exact bI (aaQ hi) an)).2 (by simp only[V.uG];exact wy (aaQ hi) h2)⟩))
 |top=>exact .top
theorem ae.w8(h:∀b o,μ b=some o→μ' b=some o)(hv:ae P μ φ v x):ae P μ' φ v x:=hv.mono h fun _ _=>rfl
theorem ae.kill(id:Nat)(hv:ae P μ φ v x):ae P μ φ (rn id v) x:=by
 unfold rn;cases v.has id<;>simp
 ·omega
 ·exact .top
theorem ae.w9(id:Nat)(hv:ae P μ φ v x):ae P μ φ (mX id v) x:=by
 unfold mX;cases v.uG id<;>simp
 ·omega
 ·exact .top
theorem wz{id j:Nat}(h:(mX id v).has j=true):v.has j=true∧(mX id v).uG id=false:=by grind [mX,id,V.has]
theorem dW.pure{R:A6}{w:World}(h:af P μ p x):dW P μ R w p x:=by
 unfold dW;split
 ·cases h
 omega
theorem dW.Pg{R:A6}{w:World}(h:dW P μ R w p x)(hp:p.isRow=false):af P μ p x:=by
 unfold dW at h;split at h
 ·cases hp
 omega
theorem af.B2(h:af P μ p x):p.isRow=false:=by cases h<;>rfl
theorem uP{id j:Nat}(h:(rn id v).has j=true):v.has j=true∧j≠id:=by grind [rn,id,V.has]
end
section
variable {P:Program} {G:Nat→Option (List PV)} {w0:bu} {μ:Ro} {φ:Nat→aA} {f:Fr} {m:Mem} {w:World}
@[simp] theorem aem(p:PV)(id:Nat):(V.pv p).has id=false:=by simp[V.has]
@[simp] theorem aej(id:Nat):V.top.has id=false:=by simp[V.has]
@[simp] theorem aa7(id:Nat):V.gF.has id=false:=by simp[V.has]
theorem Ph(cs:List PV)(id:Nat):ck id (cs.map .pv)=false:=by
 induction cs with
 |nil=>rfl
 |cons c r ih=>simp[ck,ih]
theorem nF(k:IntKind)(n:Int):(Lit.int k n).wf=true↔k.min≤n∧n≤k.max:=by simp[Lit.wf]
theorem wf_wrap(k:IntKind)(n:Int):(Lit.int k (k.wrap n)).wf=true:=by rw[nF];cases k<;>simp only[IntKind.wrap,IntKind.min,IntKind.max,IntKind.signed,IntKind.bits]<;>simp<;>(try split)<;>omega
theorem af.one{p:PV}{x:Value}(h:af P μ p x)(h1:∀cs,p≠.agg cs)(h2:∀cs,p≠.bn cs)(h3:p≠.bad):x.oneCell'=true:=by cases h<;>first|rfl|exact E4 _ _|exact absurd rfl (h1 _)|exact absurd rfl (h2 _)|exact absurd rfl h3
theorem CA(c:Value):ae P μ φ (zM c) c:=by
 unfold zM;split
 ·split
  ·exact .pv (.int (by assumption))
  ·exact .top
 ·exact .pv .bool
 ·rename_i s;split
  ·exact .pv (.str (by assumption))
  ·exact .top
 ·exact .pv .o9
 ·exact .gF
 ·exact .pv .ux
 ·exact .pv .zL
 ·exact .pv .SH
 ·exact .top
theorem CB(c:Value)(id:Nat):(zM c).has id=false:=by unfold zM;split<;>(try split)<;>simp
theorem E5(c:Value)(id:Nat):(EV c).has id=false:=by
 unfold EV;split
 ·rename_i cs;split
  ·simp only[V.has];rw[Bool.eq_false_iff];intro h;obtain⟨v,hv,hh⟩:=cF.1 h;obtain⟨x,_,rfl⟩:=agZ.1 hv;rw[CB]at hh;cases hh
  ·simp
 ·exact CB _ _
theorem sx(c:Value):ae P μ φ (EV c) c:=by
 unfold EV;split
 ·rename_i cs;split
  ·rename_i hc;refine .agg (by simp) (fun i p x hi hx=>?_) (fun i x hx=>?_)
   ·simp only[IS,agR,hx,adN,AI]at hi;subst hi;exact CA x
   ·rw[ahq]at hc;have:=hc x (by rw[←agR]at hx;exact aaQ hx);cases x<;>first|rfl|(simp at this)
  ·exact .top
 ·exact CA _
end
section
variable {R:Type} {E:Env} {w0:bu} {μ:Ro} {φ:Nat→aA} {f:Fr} {m:Mem} {a:Act} {w:World}
theorem ak(h:Rel E.P E.aH E.fn.ntmps w0 μ φ f m a w)(x:Operand):ae E.P μ φ (bA E f x) (a.eval x)∧∀id,(bA E f x).has id=true→(m id).isSome=true:=by
 cases x with
 |tmp t=>
  simp only[bA];cases e:Nat.blt t E.fn.ntmps with
  |true=>
   have bS:t<E.fn.ntmps:=by rwa[ahC]at e
   have:=h.fr t;rw[pN bS]at this;exact⟨this,h.live t⟩
  |false=>exact⟨.top,fun id an=>by cases an⟩
 |const c=>exact⟨sx c,fun id an=>by simp only[bA]at an;rw[E5]at an;cases an⟩
 |global g=>
  simp only[bA];cases hg:E.aH g with
  |none=>exact⟨.top,by simp⟩
  |some cs=>exact⟨.pv (h.aH g cs hg).rep,by simp⟩
 |func g=>
  simp only[bA];cases e:Nat.blt g Cj with
  |true=>refine⟨?_,by simp[V.has,ck]⟩;have:=ae.fn (P:=E.P) (μ:=μ) (φ:=φ) (f:=g) (cs:=[]) (xs:= #[]) (by simp) (by simp);rw[pP e]at this;exact this
  |false=>exact⟨.top,by simp⟩
variable{p:PV}
theorem nE{sz j:Nat}{q:PV}(h:(aC sz p)[j]?=some q):j<sz∧q=cell p j:=by
 unfold aC at h;have key:∀(n o j:Nat),(dO p o n)[j]?=some q→j<n∧q=cell p (o+j):=by
  intro n;induction n with
  |zero=>intro o j hj;simp[dO]at hj
  |succ n ih=>
   intro o j hj;cases j with
   |zero=>simp[dO]at hj;exact⟨by omega,by simp[hj]⟩
   |succ j=>simp only[dO,aim]at hj;obtain⟨h1,h2⟩:=ih (o+1) j hj;exact⟨by omega,by rw[h2];congr 1;omega⟩
 have:=key sz 0 j h;simpa using this
theorem aW(sz:Nat)(p:PV):(aC sz p).length=sz:=by
 unfold aC;have:∀n o,(dO p o n).length=n:=by
  intro n;induction n with
  |zero=>intro o;rfl
  |succ n ih=>intro o;simp[dO,ih]
 exact this _ _
theorem dK{sz:Nat}(h:p.cells.length=sz):aC sz p=p.cells:=by
 apply ag5;intro j;by_cases hj:j<sz
 ·have h1:j<(aC sz p).length:=by rw[aW];exact hj
  have h2:=nE (AS h1);rw[AS h1,h2.2,cell,aiw,AS (by omega)];rfl
 ·rw[afi (by rw[aW];omega),afi (by omega)]
theorem af.xb{P:Program}{μ:Ro}{n:Nat}{cs:List PV}{x:Value}(h:af P μ (.agg cs) x)(hn:cs.length=n):af P μ (.agg (aC n (.agg cs))) x:=by rw[dK (p:=.agg cs) (by simpa[PV.cells]using hn)];exact h
variable{t:TypeId}{k:PV→Option R}
theorem k8{r:R}(h:ga E t p k=some r):∃q,(∀(R':Type)(k':PV→Option R'),ga E t p k'=k' q)∧k q=some r∧(∀(P:Program)(μ:Ro)x,af P μ p x→af P μ q x)∧q≠.bad∧(∀cs,q≠.bn cs)∧(ay E.P t=false→∀cs,q≠.agg cs):=by
 unfold ga at h;split at h
 ·rename_i q hu;obtain⟨n,hn,hk⟩:=By.1 h;have hp:p=.int q n:=by cases p<;>simp[asInt]at hn;obtain⟨rfl,rfl⟩:=hn;rfl
  exact⟨.int q n,fun R' k'=>by simp[ga,hu,hn],hk,fun P μ x hx=>hp▸hx,by simp,by simp,by simp⟩
 ·rename_i hu;obtain⟨n,hn,hk⟩:=By.1 h;have hp:p=.bool n:=by cases p<;>simp[asBool]at hn;subst hn;rfl
  exact⟨.bool n,fun R' k'=>by simp[ga,hu,hn],hk,fun P μ x hx=>hp▸hx,by simp,by simp,by simp⟩
 ·rename_i hu;obtain⟨n,hn,hk⟩:=By.1 h;have hp:p=.str n:=by cases p<;>simp[cV]at hn;subst hn;rfl
  exact⟨.str n,fun R' k'=>by simp[ga,hu,hn],hk,fun P μ x hx=>hp▸hx,by simp,by simp,by simp⟩
 ·rename_i e hu;obtain⟨es,hn,hk⟩:=By.1 h;refine⟨.rs (aR E.P e) es,fun R' k'=>by simp[ga,hu,hn],hk,fun P μ x hx=>?_,by simp,by simp,by simp⟩;cases p<;>simp[aQ]at hn;split at hn
  ·rename_i hs;simp only[AI]at hn;rw[←hs,←hn];exact hx
  ·split at hn
   ·simp only[AI]at hn;subst hn;cases hx with
    |ko=>exact .ko
    |Ez h=>exact .Ez h
    |rs X h1 h2 _ _ _ _=>exact .Ez h2
   ·cases hn
 ·rename_i fs hu;obtain⟨u,hn,hk⟩:=By.1 h;refine⟨_,fun R' k'=>by simp[ga,hu,hn],hk,fun P μ x hx=>?_,by simp,by simp,by simp[ay,hu]⟩;cases p<;>simp[asAgg]at hn;exact hx.xb hn
 ·rename_i n e hu;obtain⟨u,hn,hk⟩:=By.1 h;refine⟨_,fun R' k'=>by simp[ga,hu,hn],hk,fun P μ x hx=>?_,by simp,by simp,by simp[ay,hu]⟩;cases p<;>simp[asAgg]at hn;exact hx.xb hn
 ·rename_i e hu;split at h
  ·exact⟨.o9,fun R' k'=>by simp[ga,hu],h,fun P μ x hx=>hx,by simp,by simp,by simp⟩
  ·rename_i cs;exact⟨.rp cs,fun R' k'=>by simp[ga,hu],h,fun P μ x hx=>hx,by simp,by simp,by simp⟩
  ·cases h
 ·rename_i kt et hu;unfold dJ at h;split at h
  ·exact⟨.ux,fun R' k'=>by simp[ga,hu,dJ],h,fun P μ x hx=>hx,by simp,by simp,by simp⟩
  ·rename_i uz ks vs;split at h
   ·rename_i he;subst he;exact⟨.rm _ ks vs,fun R' k'=>by simp[ga,hu,dJ],h,fun P μ x hx=>hx,by simp,by simp,by simp⟩
   ·cases h
  ·cases h
 ·rename_i ps rs vr hu;split at h
  ·exact⟨.zL,fun R' k'=>by simp[ga,hu],h,fun P μ x hx=>hx,by simp,by simp,by simp⟩
  ·rename_i g cs;exact⟨.fn g cs,fun R' k'=>by simp[ga,hu],h,fun P μ x hx=>hx,by simp,by simp,by simp⟩
  ·cases h
 ·rename_i ms hu;obtain⟨n,hn,hk⟩:=By.1 h;have hp:p=.Vv n:=by cases p<;>simp[Pa]at hn;subst hn;rfl
  exact⟨.Vv n,fun R' k'=>by simp[ga,hu,hn],hk,fun P μ x hx=>hp▸hx,by simp,by simp,by simp⟩
 ·cases h
theorem It{v:V}{k:V→Option R}{r:R}(h:yN E t v k=some r):∃u,(∀(R':Type)(k':V→Option R'),yN E t v k'=k' u)∧k u=some r∧(∀(P:Program)(μ:Ro)(φ:Nat→aA)x,ae P μ φ v x→ae P μ φ u x)∧(∀id,u.has id=true→v.has id=true):=by
 unfold yN at h;split at h
 ·obtain⟨q,h1,h2,h3,_⟩:=k8 h;exact⟨.pv q,fun R' k'=>by simp[yN,h1],h2,fun P μ φ x hx=>by cases hx with|pv hp=>exact .pv (h3 _ _ _ hp),by simp⟩
 ·cases h
 ·rename_i h1 h2;split at h
  ·rename_i hu;refine⟨v,fun R' k'=>?_,h,fun _ _ _ _ hx=>hx,fun _ h=>h⟩;unfold yN;cases v<;>first|(simp only[hu,T1];done)|exact absurd rfl (h1 _)|exact absurd rfl h2
  ·cases h
theorem uQ{r:R}(h:ga E t p k=some r):∃d,E.P.underlying t=some d:=by
 unfold ga at h;cases hq:E.P.underlying t with
 |none=>simp[hq]at h
 |some d=>exact⟨d,rfl⟩
theorem E6{v:V}{k:V→Option R}{r:R}(h:yN E t v k=some r):∃d,E.P.underlying t=some d:=by
 unfold yN at h;split at h
 ·exact uQ h
 ·cases h
 ·split at h
  ·rename_i hu;exact agT.1 hu
  ·cases h
end
section
variable {P:Program} {G:Nat→Option (List PV)} {w0:bu} {μ:Ro} {φ:Nat→aA} {m:Mem} {w:World}
variable{t:TypeId}{d:TypeDesc}
theorem A8(h:P.underlying t=some d):(P.info? t).map (·.size)=some (aR P t):=by grind [Program.underlying,aR]
theorem CC(h:ay P t=true):∃d,P.underlying t=some d∧d.isRow=true:=by unfold ay at h;grind
theorem zZ(hu:P.underlying t=some d):(isAgg t).run P w=.ok (ay P t) w:=by unfold isAgg;simp only[Sem.run_bind,run_underlying hu,Result.andThen_ok,ay,hu];cases d<;>rfl
theorem A9(hu:P.underlying t=some d):(sizeOf t).run P w=.ok (aR P t) w:=by
 have:=A8 hu;cases hi:P.info? t with
 |none=>simp[hi]at this
 |some i=>simp[sizeOf,typeInfo,hi,aR]
variable{o:Nat}
theorem gH{b:Nat}{y:Value}(hu:P.underlying t=some d)(ha:ay P t=false)(hc:w.cell? ⟨b,o,none⟩=some y):(Instr.loadAt t (.pointer (some ⟨b,o,none⟩))).run P w=.ok y w:=by simp only[Instr.loadAt,Instr.sureAddr,loadVar,Sem.run_bind,Sem.run_pure,Result.andThen_ok,zZ hu,ha];simp[load,Sem.run,hc]
theorem lY{b:Nat}{cs:List Value}(ha:ay P t=true)(hc:w.rangeAt b o cs)(hl:cs.length=aR P t):(Instr.loadAt t (.pointer (some ⟨b,o,none⟩))).run P w=.ok (.agg cs.toArray) w:=by grind [CC,run_loadAt_mid,A8]
theorem aw.cellAt(hM:aw P G w0 μ φ m w){b o:Nat}{x:Value}(h:cellAt μ b o=some x):w.cell? ⟨b,o,none⟩=some x:=by
 unfold Go.Ab.cellAt at h;split at h
 ·rename_i c t fz hb;simp[World.cell?,hM.ro _ _ hb,h]
 ·cases h
theorem df{g:Nat}{c:Array Value}{T:TypeId}{fz:Nat×Nat}(h:w.heap[g]?=some (.cells c T fz)):w.cell? ⟨g,o,none⟩=c[o]?:=by simp[World.cell?,h]
theorem eC{T:Type}{l:List T}{n i:Nat}{x:T}(h:(l.take n)[i]?=some x):i<n∧l[i]?=some x:=by grind
theorem nG{T:Type}{l:List T}{n i:Nat}{x:T}(h:((l.drop o).take n)[i]?=some x):i<n∧l[o+i]?=some x:=by grind
theorem af.Y4{cs:List PV}{b n:Nat}{X:Nat→Value}(hM:aw P G w0 μ φ m w)(h1:∀(i:Nat)p,cs[i]?=some p→Go.Ab.cellAt μ b (o+i)=some (X i))(h2:∀(i:Nat)p,cs[i]?=some p→af P μ p (X i))(h3:∀i:Nat,i<cs.length→(X i).oneCell'=true)(hn:n≤cs.length):w.rangeAt b o ((List.range n).map X)∧af P μ (.agg (cs.take n)) (.agg ((List.range n).map X).toArray):=by
 have hX:∀i x,((List.range n).map X)[i]?=some x→i<n∧x=X i:=by grind
 refine⟨fun j v hv=>?_,.agg (by simp;omega) (fun i p x hi hx=>?_) (fun i x hx=>?_)⟩
 ·obtain⟨hj,rfl⟩:=hX j v hv;exact hM.cellAt (h1 j _ (AS (by omega)))
 ·grind
 grind
end
section
variable {R:Type} {E:Env}
def Quiet(v:V)(m:Mem):Prop:=∀id,v.has id=true→(m id).isSome=true
theorem gz{g:V→Option PV}{cs:List V}{ps:List PV}(h:pe g cs=some ps):ps.length=cs.length∧∀(i:Nat)p,ps[i]?=some p→∃v,cs[i]?=some v∧g v=some p:=by
 induction cs generalizing ps with
 |nil=>simp[pe]at h;subst h;simp
 |cons c r ih=>simp only[pe]at h;obtain⟨p,hp,h⟩:=By.1 h;obtain⟨ps',ou,h⟩:=By.1 h;grind
variable{s off:Nat}{t:TypeId}{e:PV}
theorem E7{k:V→Option R}{r:R}(h:rF E s t e off k=some r):∃v,(∀(R':Type)(k':V→Option R'),rF E s t e off k'=k' v)∧k v=some r∧(∀id,v.has id=false)∧∀(μ:Ro)(φ:Nat→aA)(w:World)(g o:Nat)(c:Array Value)(T:TypeId),w.heap[g]?=some (.cells c T (0,0))→e.cells.length=s→(∀(j:Nat)p x,e.cells[j]?=some p→c[o+j]?=some x→af E.P μ p x)→(∀(i:Nat)(x:Value),i<o+s→c[i]?=some x→x.oneCell'=true)→o+s≤c.size→∃y,(Instr.loadAt t (.pointer (some ⟨g,o+off,none⟩))).run E.P w=.ok y w∧ae E.P μ φ v y:=by
 unfold rF at h;split at h
 ·rename_i ha;split at h
  ·rename_i hb;refine⟨_,fun R' k'=>by simp[rF,ha,hb],h,by simp,fun μ φ w g o c T hg hs hc h1 hl=>?_⟩;have hR:w.rangeAt g (o+off) ((c.toList.drop (o+off)).take (aR E.P t)):=fun j v hv=>by grind [nG,df]
   refine⟨_,lY ha hR (by simp;omega),.pv (.agg (by simp[aW];omega) (fun i p x hi hx=>?_) (fun i x hx=>?_))⟩
   ·grind [nG,dK,Nat.add_assoc]
   grind
  ·cases h
 ·rename_i ha;have ha:ay E.P t=false:=by simpa using ha
  split at h
  ·rename_i p hp;obtain⟨q,h1,h2,h3,_⟩:=k8 h;obtain⟨d,hu⟩:=uQ h;refine⟨.pv q,fun R' k'=>by simp[rF,ha,hp,h1],h2,by simp,fun μ φ w g o c T hg hs hc _ hl=>?_⟩;rw[dK hs]at hp;have QB:off<e.cells.length:=(HO.1 hp).1;have hx:c[o+off]?=some c[o+off]:=OF (by omega);exact⟨_,gH hu ha (by rw[df hg];omega),.pv (h3 _ _ _ (hc off p _ hp hx))⟩
  ·cases h
variable{p:PV}
theorem QC{k:PV→Option R}{r:R}(h:ga E t p k=some r):p.isRow=false∧p≠.bad:=by
 cases p with
 |pd s es=>exfalso;unfold ga at h;split at h<;>simp[asInt,asBool,cV,aQ,asAgg,Pa,dJ]at h
 |bad=>exfalso;unfold ga at h;split at h<;>simp[asInt,asBool,cV,aQ,asAgg,Pa,dJ]at h
 |_=>exact⟨rfl,by simp⟩
theorem E8(h:cell e off=p)(hp:p≠.bad):e.cells[off]?=some p:=by grind [cell,absurd]
theorem Iu{rs:List PV}(h:eK s p=some rs):p=.pd s rs:=by unfold eK at h;grind
variable{P:Program}{μ:Ro}{φ:Nat→aA}{w:World}{id i:Nat}{et:TypeId}{es:List PV}
theorem aX.cell{sz:Nat}(h:aX P μ φ w id sz et es){g:Nat}(hg:(φ id).g=some g)(he:es[i]?=some e)(hp:e.cells[off]?=some p):∃c T x,w.heap[g]?=some (.cells c T (0,0))∧c[i*sz+off]?=some x∧dW P μ ((φ id).row i off) w p x∧x.oneCell'=true:=by
 obtain⟨a1,a2,a3,a4,a5,a6,a7⟩:=h;rw[hg]at a7;obtain⟨c,T,c1,c2,c3,c4,c5⟩:=a7;have hi:i<es.length:=(HO.1 he).1;have ho:off<sz:=by grind
 have h1:(i+1)*sz≤es.length*sz:=aaP _ (by omega);have h2:es.length*sz≤(φ id).cap*sz:=aaP _ c3;rw[ahj]at h1;have bS:i*sz+off<c.size:=by omega
 exact⟨c,T,c[i*sz+off],c1,OF bS,c4 i e off p _ he hp (OF bS),c5 (i*sz+off) _ (by omega) (OF bS)⟩
theorem aX.row{sz:Nat}(h:aX P μ φ w id sz et es){rs:List PV}(he:es[i]?=some e)(hr:eK s (Go.Ab.cell e off)=some rs):∃g x,(φ id).g=some g∧w.cell? ⟨g,i*sz+off,none⟩=some x∧eB P μ ((φ id).row i off) w s rs x∧e.cells[off]?=some (.pd s rs):=by
 have hp:=E8 (Iu hr) (by simp);cases hg:(φ id).g with
 |none=>obtain⟨a1,a2,a3,a4,a5,a6,a7⟩:=h;simp_all
 |some g=>obtain⟨c,_,x,c1,c2,c3,_⟩:=h.cell hg he hp;exact⟨g,x,rfl,by rw[df c1];omega,c3,hp⟩
theorem ae.Y5{ν:Ro}{x:Value}(h:ae P μ (fun _=>((φ id).row i off).up) (.os 0) x):ae P ν φ (.uF id i off) x:=by
 cases h with
 |q6 h=>exact .GI h
 |os h=>exact .uF h
theorem ae.Li{ν:Ro}{x:Value}(h:ae P μ φ (.uF id i off) x):ae P ν (fun _=>((φ id).row i off).up) (.os 0) x:=by
 cases h with
 |GI h=>exact .q6 h
 |uF h=>exact .os (id:=0) (φ:=fun _=>((φ id).row i off).up) h
theorem E9{s:Nat}:∀{es:List PV}{k:Nat}{p:PV},(ey s es)[k]?=some p→∃i j e,k=i*s+j∧j<s∧es[i]?=some e∧(aC s e)[j]?=some p
 |[],k,p,h=>by simp[ey]at h
 |e::es,k,p,h=>by
  simp only[ey]at h;rw[ag7,aW]at h;split at h
  ·exact⟨0,k,e,by omega,‹_›,rfl,h⟩
  ·obtain⟨i,j,e',h1,h2,h3,h4⟩:=E9 h;exact⟨i+1,j,e',by rw[ahj];omega,h2,by simpa using h3,h4⟩
theorem Aa{s:Nat}:∀{es:List PV},(ey s es).length=es.length*s
 |[]=>by simp[ey]
 |e::es=>by simp only[ey,ag1,aW,Aa,agU,ahj];omega
theorem Fa(h:zQ E t s i off=true):ay E.P t=true∧i=0∧off=0∧∃n e,E.P.underlying t=some (.array n e)∧aR E.P e=s∧ay E.P e=true:=by
 unfold zQ at h;split at h
 ·rename_i n e hu;simp only[T2]at h;grind [ay,Nat.eq_of_beq_eq_true]
 ·cases h
theorem aK.whole(hA:aK P μ φ w id s et es){g:Nat}(hg:(φ id).g=some g):∃xs:List Value,xs.length=es.length*s∧w.rangeAt g 0 xs∧af P μ (.agg (ey s es)) (.agg xs.toArray):=by
 obtain⟨a1,a2,a3,a4,a5,a6,a7⟩:=hA;rw[hg]at a7;obtain⟨c,T,c1,c2,c3,c4,c5⟩:=a7;have hle:es.length*s≤c.size:=ahl (aaP _ c3) c2;refine⟨c.toList.take (es.length*s),by simp;omega,fun j v hv=>?_,.agg (by rw[Aa];simp;omega) (fun k p x hp hx=>?_) (fun k x hx=>?_)⟩
 ·grind [df]
 ·obtain⟨i,j,e,rfl,hj,he,hp⟩:=E9 hp;grind [dK]
 grind
theorem Ir{own:Bool}{a:V}{m:Mem}{k:V→bp→Option R}{r:R}(h:oU E own t a m k=some r):∃v ft,(∀m2:Mem,(∀x∈ft,m2 x.2=m x.2)→∀(R':Type)(k':V→bp→Option R'),oU E own t a m2 k'=k' v ft)∧k v ft=some r∧(∀x∈ft,x.1=false)∧∀(G:Nat→Option (List PV))(w0:bu)(μ:Ro)(φ:Nat→aA)(w:World)(x:Value),aw E.P G w0 μ φ m w→ae E.P μ φ a x→∃y,(Instr.loadAt t x).run E.P w=.ok y w∧ae E.P μ φ v y∧Quiet v m:=by
 unfold oU at h;split at h
 ·rename_i cs;split at h
  ·rename_i ha;split at h
   ·rename_i hn;refine⟨_,_,fun m2 _ R' k'=>by simp[oU,ha,hn],h,by simp,fun G w0 μ φ w x hM hx=>?_⟩;cases hx with
    |pv hp=>cases hp with
     |rp X h1 h2 h3=>obtain⟨hr,hv⟩:=af.Y4 hM h1 h2 h3 hn;exact⟨_,lY ha hr (by simp),.pv hv,by simp[Quiet]⟩
   ·cases h
  ·rename_i ha;have ha:ay E.P t=false:=by simpa using ha
   obtain⟨p,GJ,h⟩:=By.1 h;have hp1:cs[0]?=some p:=by simp_all[ais]
   obtain⟨q,h1,h2,h3,_⟩:=k8 h;refine⟨_,_,fun m2 _ R' k'=>by simp[oU,ha,GJ,h1],h2,by simp,fun G w0 μ φ w x hM hx=>?_⟩;obtain⟨d,hu⟩:=uQ h;cases hx with
   |pv hp=>cases hp with
    |rp X g1 g2 g3=>have hc:=hM.cellAt (g1 0 p hp1);exact⟨_,gH hu ha (by omega),.pv (h3 _ _ _ (g2 0 p hp1)),by simp[Quiet]⟩
 ·rename_i id off;split at h
  ·rename_i cs hm;split at h
   ·rename_i ha;split at h
    ·rename_i hn;refine⟨_,_,fun m2 cQ R' k'=>by simp[oU,ha,hn,cQ (false,id) (by simp),hm],h,by simp,fun G w0 μ φ w x hM hx=>?_⟩;cases hx with
     | @op _ _ g hg=>
      obtain⟨g',c,T,cv,hh,hs,hv,h1,zJ⟩:=hM.du id _ hm;rw[hg]at cv;simp only[AI]at cv;subst cv;have hR:w.rangeAt g off ((c.toList.drop off).take (aR E.P t)):=fun j v hv=>by grind [nG,df]
      refine⟨_,lY ha hR (by simp;omega),.agg (by simp;omega) (fun i p x hi hx=>?_) (fun i x hx=>?_),?_⟩
      ·grind
      ·grind
      ·intro qY an;simp only[V.has]at an;obtain⟨v,hv,hh⟩:=cF.1 an;exact hM.fy id cs qY hm (bI (ah3 (ahJ hv)) hh)
    ·cases h
   ·rename_i ha;have ha:ay E.P t=false:=by simpa using ha
    split at h
    ·rename_i ps ou;obtain⟨p,GJ,h⟩:=By.1 h;obtain⟨q,h1,h2,h3,_⟩:=k8 h;refine⟨_,_,fun m2 cQ R' k'=>by simp[oU,ha,cQ (false,id) (by simp),hm,ou,GJ,h1],h2,by simp,fun G w0 μ φ w x hM hx=>?_⟩;cases hx with
     | @op _ _ g hg=>
      obtain⟨g',c,T,cv,hh,hs,hvv,_⟩:=hM.du id _ hm;rw[hg]at cv;simp only[AI]at cv;subst cv;obtain⟨f1,f2⟩:=gz ou;obtain⟨bS,hp1⟩:=HO.1 GJ;have QB:off<cs.length:=by omega
      obtain⟨v,hv,mQ⟩:=f2 off p GJ;have hvp:v=.pv p:=by cases v<;>simp[pvO]at mQ;subst mQ;rfl
      subst hvp;have hx:c[off]?=some c[off]:=OF (by omega);obtain⟨d,hu⟩:=uQ h;have hr:=hvv off _ _ hv hx;cases hr with
      |pv hr=>exact⟨_,gH hu ha (by rw[df hh];omega),.pv (h3 _ _ _ hr),by simp[Quiet]⟩
    ·rename_i Vw;split at h
     ·rename_i v hv;obtain⟨u,h1,h2,h3,h4⟩:=It h;refine⟨_,_,fun m2 cQ R' k'=>by simp[oU,ha,cQ (false,id) (by simp),hm,Vw,hv,h1],h2,by simp,fun G w0 μ φ w x hM hx=>?_⟩;cases hx with
      | @op _ _ g hg=>obtain⟨g',c,T,cv,hh,hs,hvv,_⟩:=hM.du id _ hm;rw[hg]at cv;simp only[AI]at cv;subst cv;have QB:off<cs.length:=(HO.1 hv).1;have hx:c[off]?=some c[off]:=OF (by omega);obtain⟨d,hu⟩:=E6 h;refine⟨_,gH hu ha (by rw[df hh];omega),h3 _ _ _ _ (hvv off v _ hv hx),fun qY an=>?_⟩;exact hM.fy id cs qY hm (bI (aaQ hv) (h4 qY an))
     ·cases h
  ·cases h
 ·rename_i id i off;have key:∀(sz:Nat)(et:TypeId)(es:List PV),(m id=some (.arr sz et es)∨m id=some (.pt sz et es))→((es[i]?).bind fun e=>rF E sz t e off fun v=>k v [(false,id)])=some r→∃v,(∀(R':Type)(k':V→bp→Option R'),((es[i]?).bind fun e=>rF E sz t e off fun v=>k' v [(false,id)])=k' v [(false,id)])∧k v [(false,id)]=some r∧∀(G:Nat→Option (List PV))(w0:bu)(μ:Ro)(φ:Nat→aA)(w:World)(x:Value),aw E.P G w0 μ φ m w→ae E.P μ φ (.oe id i off) x→∃y,(Instr.loadAt t x).run E.P w=.ok y w∧ae E.P μ φ v y∧Quiet v m:=by
   intro sz et es hm hb;obtain⟨e,he,hb⟩:=By.1 hb;obtain⟨v,h1,h2,h3,h4⟩:=E7 hb;refine⟨v,fun R' k'=>by simp[he,h1],h2,fun G w0 μ φ w x hM hx=>?_⟩;have hA:aK E.P μ φ w id sz et es:=by
    rcases hm with hm|hm
    ·exact hM.du id _ hm
    ·exact(hM.du id _ hm).1
   cases hx with
   | @oe _ _ _ g hg=>
    obtain⟨a1,a2,a3,a4,a5,a6,a7⟩:=hA;rw[hg]at a7;obtain⟨c,T,c1,c2,c3,c4,c5⟩:=a7;have hi:i<es.length:=(HO.1 he).1;obtain⟨y,hy,hv⟩:=h4 μ φ w g (i*sz) c T c1 (a5 i e he) (fun j p x hj hx=>c4 i e j p x he hj hx) (fun i' x mT hx=>c5 i' x (by
     have:(i+1)*sz≤es.length*sz:=aaP _ (by omega);grind) hx) (by
     have:(i+1)*sz≤(φ id).cap*sz:=aaP _ (by omega);grind)
    rw[a2];exact⟨y,hy,hv,fun id an=>by simp_all⟩
  split at h
  ·rename_i sz et es hm;cases hw:zQ E t sz i off with
   |true=>
    rw[hw]at h;simp only[cond_true]at h;split at h
    ·rename_i hl;obtain⟨ha,rfl,rfl,_⟩:=Fa hw;refine⟨_,_,fun m2 cQ R' k'=>by have:=cQ (false,id) (by simp);simp_all[oU,cond_true,BY],h,by simp,fun G w0 μ φ w x hM hx=>?_⟩;have hA:aK E.P μ φ w id sz et es:=hM.du id _ hm;cases hx with
     | @oe _ _ _ g hg=>obtain⟨xs,x1,x2,x3⟩:=hA.whole hg;rw[ajX];exact⟨_,lY ha x2 (by omega),.pv x3,by simp[Quiet]⟩
    ·cases h
   |false=>rw[hw]at h;obtain⟨v,h1,h2,h3⟩:=key sz et es (.inl hm) h;exact⟨v,_,fun m2 cQ R' k'=>by have:=cQ (false,id) (by simp);simp_all[oU,cond_false],h2,by simp,h3⟩
  ·rename_i sz et es hm;obtain⟨v,h1,h2,h3⟩:=key sz et es (.inr hm) h;exact⟨v,_,fun m2 cQ R' k'=>by have:=cQ (false,id) (by simp);simp_all[oU],h2,by simp,h3⟩
  ·rename_i sz et es hm;split at h
   ·cases h
   ·rename_i ha;obtain⟨e,he,h⟩:=By.1 h;have XN:ay E.P t=false:=by simpa using ha
    split at h
    ·rename_i ho;split at h
     ·rename_i Eo hu;obtain⟨rs,hr,h⟩:=By.1 h;refine⟨_,_,fun m2 cQ R' k'=>by have:=cQ (false,id) (by simp);simp_all[oU,IN,agO,T1],h,by simp,fun G w0 μ φ w x hM hx=>?_⟩;have hN:aX E.P μ φ w id sz et es:=hM.du id _ hm;obtain⟨g,y,hg,hc,kx,_⟩:=hN.row he hr;cases hx with
      |oe cv=>rw[hg]at cv;simp only[AI]at cv;subst cv;rw[hN.2.1];refine⟨y,gH hu XN hc,.Y5 kx.2,fun j hj=>?_⟩;have:=IT hj;subst this;rw[hm];rfl
     ·cases h
    ·rename_i ho;obtain⟨q,h1,h2,h3,_⟩:=k8 h;obtain⟨hq1,hq2⟩:=QC h;obtain⟨d,hu⟩:=uQ h;refine⟨_,_,fun m2 cQ R' k'=>by have:=cQ (false,id) (by simp);simp_all[oU,IN,agO,Xq,AT],h2,by simp,fun G w0 μ φ w x hM hx=>?_⟩;have hN:aX E.P μ φ w id sz et es:=hM.du id _ hm;cases hx with
     |oe hg=>obtain⟨c,_,y,c1,c2,c3,_⟩:=hN.cell hg he (E8 rfl hq2);rw[hN.2.1];exact⟨y,gH hu XN (by rw[df c1];omega),.pv (h3 _ _ _ (c3.Pg hq1)),by simp[Quiet]⟩
  ·cases h
 ·rename_i id i off s j off2;split at h
  ·rename_i sz et es hm;obtain⟨e,he,h⟩:=By.1 h;obtain⟨rs,hr,h⟩:=By.1 h;obtain⟨q,hq,h⟩:=By.1 h;obtain⟨v,h1,h2,h3,h4⟩:=E7 h;refine⟨v,_,fun m2 cQ R' k'=>by have:=cQ (false,id) (by simp);simp_all[oU,agO],h2,by simp,fun G w0 μ φ w x hM hx=>?_⟩;have hN:aX E.P μ φ w id sz et es:=hM.du id _ hm;obtain⟨g,y,hg,hc,⟨⟨Eo,hA⟩,hV⟩,_⟩:=hN.row he hr;cases hx with
   | @yL _ _ _ _ _ _ g' cv hs=>obtain⟨a1,a2,a3,a4,a5,a6,a7⟩:=hA;have hgu:((φ id).row i off).up.g=some g':=cv;rw[hgu]at a7;obtain⟨c,T,c1,c2,c3,c4,c5⟩:=a7;have hj:j<rs.length:=(HO.1 hq).1;have e1:(j+1)*s≤rs.length*s:=aaP _ (by omega);have e2:rs.length*s≤((φ id).row i off).up.cap*s:=aaP _ c3;have e3:((φ id).row i off).up.cap*s≤c.size:=c2;rw[ahj]at e1;obtain⟨y,hy,hv⟩:=h4 μ φ w g' (j*s) c T c1 (a5 j q hq) (fun l p x hl hx=>c4 j q l p x hq hl hx) (fun i' x mT hx=>c5 i' x (by omega) hx) (by omega);exact⟨y,hy,hv,fun id an=>by simp_all⟩
  ·cases h
 ·cases h
end
section
variable {R:Type} {E:Env}
variable{s t:TypeId}{j o:Nat}
theorem Ba(h:yO E s j=some (o,t)):∃fs f,E.P.underlying s=some (.struct fs)∧fs[j]?=some f∧f.offset=o∧f.type=t∧aR E.P t≠0:=by unfold yO at h;grind
variable{P:Program}
theorem wA(h:aR P t≠0):∃i,P.info? t=some i∧i.size=aR P t:=by
 unfold aR at*;cases hi:P.info? t with
 |none=>simp[hi]at h
 |some i=>simp
variable{w:World}
theorem iU(h:aR P t≠0):(sizeOf t).run P w=.ok (aR P t) w:=by obtain⟨i,hi,hs⟩:=wA h;simp[sizeOf,typeInfo,hi,hs]
theorem rr{fs:Array Field}{f:Field}{b:Nat}(hu:P.underlying s=some (.struct fs))(hf:fs[j]?=some f)(hz:aR P f.type≠0):(Instr.fieldAt s (.pointer (some ⟨b,o,none⟩)) j).run P w=.ok (.pointer (some ⟨b,o+f.offset,none⟩)) w:=by simp_all[Instr.fieldAt,run_underlying,Instr.sureAddr,fieldPlace,iU,Addr.add_mid]
theorem pR{T:Type}{l:List T}{i:Nat}{x:T}(h:(l.drop o)[i]?=some x):l[o+i]?=some x:=by simp_all
theorem af.GK{μ:Ro}{cs:List PV}{b:Nat}(n:Nat)(h:af P μ (.rp cs) (.pointer (some ⟨b,o,none⟩))):af P μ (.rp (cs.drop n)) (.pointer (some ⟨b,o+n,none⟩)):=by
 cases h with
 |rp X h1 h2 h3=>
  refine .rp (fun i=>X (n+i)) (fun i p hi=>?_) (fun i p hi=>h2 _ p (pR hi)) (fun i hi=>h3 _ ?_)
  ·grind
  ·simp at hi;omega
variable{x:V}{k:V→Option R}{r:R}
theorem EA(h:jH E s x j k=some r):∃v,(∀(R':Type)(k':V→Option R'),jH E s x j k'=k' v)∧k v=some r∧(∀id,v.has id=x.has id)∧∀(μ:Ro)(φ:Nat→aA)(w:World)(y:Value),ae E.P μ φ x y→∃z,(Instr.fieldAt s y j).run E.P w=.ok z w∧ae E.P μ φ v z:=by
 unfold jH at h;split at h
 ·rename_i o t ho;obtain⟨fs,f,hu,hf,rfl,rfl,hz⟩:=Ba ho;split at h
  ·rename_i cs;refine⟨_,fun R' k'=>by simp[jH,ho],h,by simp,fun μ φ w y hy=>?_⟩;cases hy with
   |pv hp=>cases hp with
    |rp X h1 h2 h3=>exact⟨_,rr hu hf hz,.pv (af.GK _ (.rp X h1 h2 h3))⟩
  ·rename_i id off;refine⟨_,fun R' k'=>by simp[jH,ho],h,by simp[V.has],fun μ φ w y hy=>?_⟩;cases hy with
   |op hg=>exact⟨_,rr hu hf hz,.op hg⟩
  ·rename_i id i off;refine⟨_,fun R' k'=>by simp[jH,ho],h,by simp[V.has],fun μ φ w y hy=>?_⟩;cases hy with
   |oe hg=>exact⟨_,rr hu hf hz,by rw[ahm];exact .oe hg⟩
  ·refine⟨_,fun R' k'=>by simp[jH,ho],h,by simp[V.has],fun μ φ w y hy=>?_⟩;cases hy with
   |yL hg hs=>exact⟨_,rr hu hf hz,by rw[ahm];exact .yL hg hs⟩
  ·cases h
 ·cases h
theorem gI{e:TypeId}{q:IntKind}{i:Int}{ad:Addr}{len cap:Nat}(hu:P.underlying t=some (.slice e))(hz:aR P e≠0)(h0:0≤i)(h1:i<(len:Int)):(Instr.indexAt t (.slice (some ad) len cap) (.int q i)).run P w=.ok (.pointer (some (ad.add (i.toNat*aR P e)))) w:=by simp[Instr.indexAt,asIntOf,run_underlying hu,h0,h1,iU hz]
theorem k9{e:TypeId}{n:Nat}{q:IntKind}{i:Int}{ad:Addr}(hu:P.underlying t=some (.array n e))(hz:aR P e≠0)(h0:0≤i)(h1:i<(n:Int)):(Instr.indexAt t (.pointer (some ad)) (.int q i)).run P w=.ok (.pointer (some (ad.add (i.toNat*aR P e)))) w:=by simp[Instr.indexAt,asIntOf,run_underlying hu,h0,h1,iU hz,Instr.sureAddr]
theorem VU{es:List PV}{i:Int}{p:PV}(h:aM es i=some p):0≤i∧es[i.toNat]?=some p∧i<(es.length:Int):=by grind [aM]
theorem af.Pj{μ:Ro}{sz:Nat}{es:List PV}{x:Value}{n:Nat}{p:PV}(h:af P μ (.rs sz es) x)(hp:es[n]?=some p):∃b o cap,x=.slice (some ⟨b,o,none⟩) es.length cap∧af P μ (.rp (aC sz p)) (.pointer (some ⟨b,o+n*sz,none⟩)):=by
 cases h with
 |ko=>simp at hp
 |Ez _=>simp at hp
 | @rs _ _ b o cap X h1 h2 h3 h4 h5 h6=>refine⟨b,o,cap,rfl,?_⟩;rw[dK (h3 n p hp)];exact .rp (X n) (fun i q hi=>h4 n p i q hp hi) (fun i q hi=>h5 n p i q hp hi) (fun i hi=>h6 n p i _ hp (AS hi))
theorem EB{ix:V}{m:Mem}{k:V→bp→Option R}(h:cZ E t x ix m k=some r):∃v ft,(∀m2:Mem,(∀x∈ft,m2 x.2=m x.2)→∀(R':Type)(k':V→bp→Option R'),cZ E t x ix m2 k'=k' v ft)∧k v ft=some r∧(∀x∈ft,x.1=false)∧(∀id,v.has id=true→x.has id=true)∧∀(G:Nat→Option (List PV))(w0:bu)(μ:Ro)(φ:Nat→aA)(w:World)(y z:Value),aw E.P G w0 μ φ m w→ae E.P μ φ x y→ae E.P μ φ ix z→∃u,(Instr.indexAt t y z).run E.P w=.ok u w∧ae E.P μ φ v u:=by
 unfold cZ at h;split at h
 ·rename_i q i;split at h
  ·rename_i e s es hu;split at h
   ·rename_i hs;obtain⟨p,hp,hk⟩:=By.1 h;refine⟨_,_,fun m2 _ R' k'=>by simp only[cZ,hu];rw[BY hs,hp];rfl,hk,by simp,by simp,fun G w0 μ φ w y z hM hy hz=>?_⟩;obtain⟨h0,hp,hl⟩:=VU hp;cases hz with
    |pv hz=>cases hz with
     |int yV=>
      cases hy with
      |pv hy=>obtain⟨b,o,cap,rfl,hr⟩:=hy.Pj hp;refine⟨_,gI hu (by omega) h0 hl,?_⟩;rw[Addr.add_mid,←hs.1];exact .pv hr
   ·cases h
  ·rename_i e id hu;have key:∀(s:Nat)(et:TypeId)(es:List PV),(m id=some (.arr s et es)∨m id=some (.pt s et es))→s=aR E.P e∧0<s→ab i es.length→∀(G:Nat→Option (List PV))(w0:bu)(μ:Ro)(φ:Nat→aA)(w:World)(y z:Value),aw E.P G w0 μ φ m w→ae E.P μ φ (.os id) y→ae E.P μ φ (.pv (.int q i)) z→∃u,(Instr.indexAt t y z).run E.P w=.ok u w∧ae E.P μ φ (.oe id i.toNat 0) u:=by
    intro s et es hm hs hr G w0 μ φ w y z hM hy hz;have hA:aK E.P μ φ w id s et es:=by
     rcases hm with hm|hm
     ·exact hM.du id _ hm
     ·exact(hM.du id _ hm).1
    obtain⟨a1,a2,a3,a4,a5,a6,a7⟩:=hA;cases hz with
    |pv hz=>cases hz with
     |int yV=>
      cases hy with
      |q6 hg=>grind [ab]
      | @os _ g hg=>refine⟨_,gI hu (by omega) hr.1 (by rw[a1];exact hr.2),?_⟩;rw[Addr.add_mid];have:=ae.oe (P:=E.P) (μ:=μ) (φ:=φ) (id:=id) (i:=i.toNat) (off:=0) hg;simp_all
   split at h
   ·rename_i s et es hm;split at h
    ·rename_i hs;split at h
     ·rename_i hr;exact⟨_,_,fun m2 cQ R' k'=>by have:=cQ (false,id) (by simp);simp only at this;simp only[cZ,hu,this,hm];grind,h,by simp,by simp[V.has],key s et es (.inl hm) hs hr⟩
     ·cases h
    ·cases h
   ·rename_i s et es hm;split at h
    ·rename_i hs;split at h
     ·rename_i hr;exact⟨_,_,fun m2 cQ R' k'=>by have:=cQ (false,id) (by simp);simp only at this;simp only[cZ,hu,this,hm];grind,h,by simp,by simp[V.has],key s et es (.inr hm) hs hr⟩
     ·cases h
    ·cases h
   ·rename_i s et es hm;split at h
    ·rename_i hs;split at h
     ·rename_i hr;refine⟨_,_,fun m2 cQ R' k'=>by have:=cQ (false,id) (by simp);simp only at this;simp only[cZ,hu,this,hm];grind,h,by simp,by simp[V.has],fun G w0 μ φ w y z hM hy hz=>?_⟩;have hA:aX E.P μ φ w id s et es:=hM.du id _ hm;obtain⟨a1,a2,a3,a4,a5,a6,a7⟩:=hA;cases hz with
      |pv hz=>cases hz with
       |int yV=>
        cases hy with
        |q6 hg=>grind [ab]
        | @os _ g hg=>refine⟨_,gI hu (by omega) hr.1 (by rw[a1];exact hr.2),?_⟩;rw[Addr.add_mid];have:=ae.oe (P:=E.P) (μ:=μ) (φ:=φ) (id:=id) (i:=i.toNat) (off:=0) hg;simp_all
     ·cases h
    ·cases h
   ·rename_i cs hm;split at h
    ·rename_i hs;refine⟨_,_,fun m2 cQ R' k'=>by have:=cQ (false,id) (by simp);simp_all[cZ,BY],h,by simp,by simp[V.has],fun G w0 μ φ w y z hM hy hz=>?_⟩;obtain⟨g,c,T,hg,hh,mP,hv,sy,zJ⟩:=hM.du id _ hm;cases hz with
     |pv hz=>cases hz with
      |int yV=>
       cases hy with
       |q6 cv=>simp_all
       | @os _ g' cv=>refine⟨_,gI hu (by omega) hs.2.1 (by rw[zJ];exact hs.2.2),?_⟩;rw[Addr.add_mid,hs.1];have:=ae.op (P:=E.P) (μ:=μ) (φ:=φ) (id:=id) (off:=i.toNat) cv;simpa using this
    ·cases h
   ·cases h
  ·rename_i e id i0 off hu;split at h
   ·rename_i s0 et0 es hm;split at h
    ·rename_i er;obtain⟨e0,he,h⟩:=By.1 h;obtain⟨rs,KU,h⟩:=By.1 h;split at h
     ·rename_i hr;refine⟨_,_,fun m2 cQ R' k'=>by have:=cQ (false,id) (by simp);simp_all[cZ,BY,agO],h,by simp,by simp[V.has],fun G w0 μ φ w y z hM hy hz=>?_⟩;have hN:aX E.P μ φ w id s0 et0 es:=hM.du id _ hm;obtain⟨_,_,_,_,⟨⟨Eo,hA⟩,_⟩,_⟩:=hN.row he KU;obtain⟨a1,a2,a3,a4,a5,a6,a7⟩:=hA;cases hz with
      |pv hz=>cases hz with
       |int yV=>
        cases hy with
        |GI hg=>have cv:((φ id).row i0 off).up.g=none:=hg;simp_all[ab]
        | @uF _ _ _ g hg=>have a1':((φ id).row i0 off).len=rs.length:=a1;refine⟨_,gI hu (by omega) hr.1 (by rw[a1'];exact hr.2),?_⟩;rw[Addr.add_mid];have:=ae.yL (P:=E.P) (μ:=μ) (φ:=φ) (id:=id) (i:=i0) (off:=off) (s:=aR E.P e) (j:=i.toNat) (off2:=0) hg a2;simpa using this
     ·cases h
    ·cases h
   ·cases h
  ·rename_i e id lo len hu;have key:∀(s:Nat)(et:TypeId)(es:List PV),(m id=some (.arr s et es)∨m id=some (.pt s et es))→s=aR E.P e∧0<s→ab i len→∀(G:Nat→Option (List PV))(w0:bu)(μ:Ro)(φ:Nat→aA)(w:World)(y z:Value),aw E.P G w0 μ φ m w→ae E.P μ φ (.fx id lo len) y→ae E.P μ φ (.pv (.int q i)) z→∃u,(Instr.indexAt t y z).run E.P w=.ok u w∧ae E.P μ φ (.oe id (lo+i.toNat) 0) u:=by
    intro s et es hm hs hr G w0 μ φ w y z hM hy hz;have hA:aK E.P μ φ w id s et es:=by
     rcases hm with hm|hm
     ·exact hM.du id _ hm
     ·exact(hM.du id _ hm).1
    obtain⟨a1,a2,a3,a4,a5,a6,a7⟩:=hA;cases hz with
    |pv hz=>cases hz with
     |int yV=>
      cases hy with
      |pO hg=>simp[ab]at hr;omega
      | @fx _ _ _ BJ g ad hg hl ha Y6 SI=>
       have ha:=ha.resolve_right fun hh=>by have:=hr.1;have:=hr.2;omega
       subst ha;refine⟨_,gI hu (by omega) hr.1 hr.2,?_⟩;rw[Addr.add_mid];have:=ae.oe (P:=E.P) (μ:=μ) (φ:=φ) (id:=id) (i:=lo+i.toNat) (off:=0) hg;grind
   split at h
   ·rename_i s et es hm;split at h
    ·rename_i hs;split at h
     ·rename_i hr;exact⟨_,_,fun m2 cQ R' k'=>by have:=cQ (false,id) (by simp);simp only at this;simp only[cZ,hu,this,hm];grind,h,by simp,by simp[V.has],key s et es (.inl hm) hs hr⟩
     ·cases h
    ·cases h
   ·rename_i s et es hm;split at h
    ·rename_i hs;split at h
     ·rename_i hr;exact⟨_,_,fun m2 cQ R' k'=>by have:=cQ (false,id) (by simp);simp only at this;simp only[cZ,hu,this,hm];grind,h,by simp,by simp[V.has],key s et es (.inr hm) hs hr⟩
     ·cases h
    ·cases h
   ·cases h
  ·rename_i n e id off hu;split at h
   ·rename_i hr;refine⟨_,_,fun m2 _ R' k'=>by simp_all[cZ,BY],h,by simp,by simp[V.has],fun G w0 μ φ w y z hM hy hz=>?_⟩;cases hz with
    |pv hz=>cases hz with
     |int yV=>
      cases hy with
      |op hg=>exact⟨_,k9 hu (by omega) hr.1.1 hr.1.2,by rw[Addr.add_mid];exact .op hg⟩
   ·cases h
  ·rename_i n e cs hu;split at h
   ·rename_i hr;refine⟨_,_,fun m2 _ R' k'=>by simp_all[cZ,BY],h,by simp,by simp,fun G w0 μ φ w y z hM hy hz=>?_⟩;cases hz with
    |pv hz=>cases hz with
     |int yV=>
      cases hy with
      |pv hy=>cases hy with
       |rp X h1 h2 h3=>exact⟨_,k9 hu (by omega) hr.1.1 hr.1.2,by rw[Addr.add_mid];exact .pv (af.GK _ (.rp X h1 h2 h3))⟩
   ·cases h
  ·rename_i n e id j off hu;split at h
   ·rename_i hr;split at h
    ·rename_i hb;refine⟨_,_,fun m2 cQ R' k'=>by have:=cQ (false,id) (by simp);simp_all[cZ,BY],h,by simp,by simp[V.has],fun G w0 μ φ w y z hM hy hz=>?_⟩;have mP:(φ id).sz=aR E.P e:=by
      split at hb
      ·rename_i s et es hm;rw[IT hb];have hA:aK E.P μ φ w id s et es:=hM.du id _ hm;exact hA.2.1
      ·cases hb
     cases hz with
     |pv hz=>cases hz with
      |int yV=>
       cases hy with
       |oe hg=>refine⟨_,k9 hu (by omega) hr.1.1 hr.1.2,?_⟩;have:=ae.oe (P:=E.P) (μ:=μ) (φ:=φ) (id:=id) (i:=i.toNat+j) (off:=off) hg;grind [Addr.add_mid,id,aR,Nat.add_mul]
    ·rename_i hb;refine⟨_,_,fun m2 cQ R' k'=>by have:=cQ (false,id) (by simp);simp_all[cZ,BY],h,by simp,by simp[V.has],fun G w0 μ φ w y z hM hy hz=>?_⟩;cases hz with
     |pv hz=>cases hz with
      |int yV=>
       cases hy with
       |oe hg=>exact⟨_,k9 hu (by omega) hr.1.1 hr.1.2,by rw[Addr.add_mid,ahm];exact .oe hg⟩
   ·cases h
  ·cases h
 ·cases h
theorem nP{cs:List V}(h:pK x=some cs):(∀id,ck id cs=true→x.has id=true)∧∀(P:Program)(μ:Ro)(φ:Nat→aA)y,ae P μ φ x y→∃xs:Array Value,y=.agg xs∧cs.length=xs.size∧(∀(i:Nat)p x,cs[i]?=some p→xs[i]?=some x→ae P μ φ p x)∧(∀(i:Nat)(x:Value),xs[i]?=some x→x.oneCell'=true):=by
 unfold pK at h;split at h
 ·simp only[AI]at h;subst h;refine⟨fun id an=>(by rw[Ph]at an;cases an),fun P μ φ y hy=>?_⟩;cases hy with
  |pv hy=>cases hy with
   |agg h1 h2 h3=>refine⟨_,rfl,by simpa using h1,fun i p x hi hx=>?_,h3⟩;simp only[IS,aaO]at hi;obtain⟨q,hq,rfl⟩:=hi;exact .pv (h2 i q x hq hx)
 ·simp only[AI]at h;subst h;refine⟨fun id an=>by simpa[V.has]using an,fun P μ φ y hy=>?_⟩;cases hy with
  |agg h1 h2 h3=>grind
 ·cases h
variable{xs:Array Value}{off:Nat}
theorem yW(ha:ay P t=true):(part t xs off).run P w=.ok (.agg (xs.extract off (off+aR P t))) w:=by obtain⟨d,hu,_⟩:=CC ha;simp_all[part,zZ,A9]
theorem yX{d:TypeDesc}{y:Value}(hu:P.underlying t=some d)(ha:ay P t=false)(hy:xs[off]?=some y):(part t xs off).run P w=.ok y w:=by simp[part,zZ hu,ha,hy]
theorem Iv{cs:List V}(h:Cn E t cs off k=some r):∃v,(∀(R':Type)(k':V→Option R'),Cn E t cs off k'=k' v)∧k v=some r∧(∀id,v.has id=true→ck id cs=true)∧∀(μ:Ro)(φ:Nat→aA)(w:World)(xs:Array Value),cs.length=xs.size→(∀(i:Nat)p x,cs[i]?=some p→xs[i]?=some x→ae E.P μ φ p x)→(∀(i:Nat)(x:Value),xs[i]?=some x→x.oneCell'=true)→∃z,(part t xs off).run E.P w=.ok z w∧ae E.P μ φ v z:=by
 unfold Cn at h;split at h
 ·rename_i ha;split at h
  ·rename_i hn;refine⟨_,fun R' k'=>by simp[Cn,ha,hn],h,fun id an=>?_,fun μ φ w xs h1 h2 h3=>⟨_,yW ha,?_⟩⟩
   ·simp only[V.has]at an;obtain⟨v,hv,hh⟩:=cF.1 an;grind [bI,List.mem_of_mem_drop,List.mem_of_mem_take]
   ·refine .agg (by simp;omega) (fun i p x hi hx=>?_) (fun i x hx=>?_)
    ·grind
    grind [Array.getElem?_extract]
  ·cases h
 ·rename_i ha;have ha:ay E.P t=false:=by simpa using ha
  split at h
  ·rename_i v hv;obtain⟨u,h1,h2,h3,h4⟩:=It h;obtain⟨d,hu⟩:=E6 h;refine⟨u,fun R' k'=>by simp[Cn,ha,hv,h1],h2,fun id an=>bI (aaQ hv) (h4 id an),fun μ φ w xs g1 g2 g3=>?_⟩;have bS:off<cs.length:=(HO.1 hv).1;have hx:xs[off]?=some xs[off]:=OF (by omega);grind [yX]
  ·cases h
theorem QD(h:Co E s x j k=some r):∃v,(∀(R':Type)(k':V→Option R'),Co E s x j k'=k' v)∧k v=some r∧(∀id,v.has id=true→x.has id=true)∧∀(μ:Ro)(φ:Nat→aA)(w:World)(y:Value),ae E.P μ φ x y→∃z,(Instr.field s y j).run E.P w=.ok z w∧ae E.P μ φ v z:=by
 unfold Co at h;split at h
 ·rename_i o t cs ho hc;obtain⟨fs,f,hu,hf,rfl,rfl,hz⟩:=Ba ho;obtain⟨v,h1,h2,h3,h4⟩:=Iv h;obtain⟨c1,c2⟩:=nP hc;refine⟨v,fun R' k'=>by simp[Co,ho,hc,h1],h2,fun id an=>c1 id (h3 id an),fun μ φ w y hy=>?_⟩;obtain⟨xs,rfl,g1,g2,g3⟩:=c2 _ _ _ _ hy;obtain⟨z,hz,hv⟩:=h4 μ φ w xs g1 g2 g3;exact⟨z,by simp[Instr.field,run_underlying hu,hf,Go.asAgg,hz],hv⟩
 ·cases h
theorem wf_u8(b:UInt8):(Lit.int .u8 b.toNat).wf=true:=by rw[nF];have:=b.toNat_lt;simp[IntKind.min,IntKind.max,IntKind.signed,IntKind.bits];omega
theorem QE{ix:V}(h:zT E t x ix k=some r):∃v,(∀(R':Type)(k':V→Option R'),zT E t x ix k'=k' v)∧k v=some r∧(∀id,v.has id=true→x.has id=true)∧∀(μ:Ro)(φ:Nat→aA)(w:World)(y z:Value),ae E.P μ φ x y→ae E.P μ φ ix z→∃u,(Instr.index t y z).run E.P w=.ok u w∧ae E.P μ φ v u:=by
 unfold zT at h;split at h
 ·rename_i q i;split at h
  ·rename_i s hu;obtain⟨b,hb,hk⟩:=By.1 h;refine⟨_,fun R' k'=>by simp[zT,hu,hb],hk,by simp,fun μ φ w y z hy hz=>?_⟩;cases hz with
   |pv hz=>cases hz with
    |int yV=>
     cases hy with
     |pv hy=>cases hy with
      |str hl=>
       unfold Qx at hb;split at hb
       ·rename_i h0;have bS:=(HO.1 hb).1;have gX:(⟨s.toArray⟩:ByteArray)[i.toNat]?=some b:=by
         rw[getElem?_def];have:i.toNat<(⟨s.toArray⟩:ByteArray).size:=by simpa[ByteArray.size]using bS
         rw[aj1 this];have e:=(HO.1 hb).2;simp only[AI];rw[←e];rfl
        refine⟨_,?_,.pv (.int (wf_u8 b))⟩;simp[Instr.index,asIntOf,run_underlying hu,h0,gX]
       ·cases hb
  ·rename_i n et hu;split at h
   ·rename_i cs hc;split at h
    ·rename_i hn;obtain⟨v,h1,h2,h3,h4⟩:=Iv h;obtain⟨c1,c2⟩:=nP hc;refine⟨v,fun R' k'=>by simp only[zT,hu,hc];rw[BY hn,h1],h2,fun id an=>c1 id (h3 id an),fun μ φ w y z hy hz=>?_⟩;obtain⟨xs,rfl,g1,g2,g3⟩:=c2 _ _ _ _ hy;obtain⟨u,hu1,hv⟩:=h4 μ φ w xs g1 g2 g3;cases hz with
     |pv hz=>cases hz with
      |int yV=>refine⟨u,?_,hv⟩;have hr:=hn.1;unfold ab at hr;simp[Instr.index,asIntOf,run_underlying hu,hr.1,hr.2,iU (show aR E.P et≠0 by omega),hu1]
    ·cases h
   ·cases h
  ·cases h
 ·cases h
end
section
variable {R:Type} {E:Env}
theorem CD(s:Bytes):(⟨s.toArray⟩:ByteArray).size=s.length:=by rfl
theorem CE{n:Nat}(h:n≤maxLen):(Lit.int .i64 (n:Int)).wf=true:=by grind [nF,maxLen,IntKind.min,IntKind.max,IntKind.signed,IntKind.bits]
variable{P:Program}{μ:Ro}{sz:Nat}{es:List PV}
theorem Y7{x:Value}(h:af P μ (.rs sz es) x):∃a cap,x=.slice a es.length cap∧es.length≤maxLen:=by
 cases h with
 |ko=>simp
 | @Ez _ cap a h=>simp
 |rs X h1 h2=>grind
variable{φ:Nat→aA}{m:Mem}{w:World}
theorem aw.arr{G:Nat→Option (List PV)}{w0:bu}(hM:aw P G w0 μ φ m w){id s:Nat}{et:TypeId}(hm:m id=some (.arr s et es)∨m id=some (.pt s et es)):aK P μ φ w id s et es:=by
 rcases hm with hm|hm
 ·exact hM.du id _ hm
 ·exact(hM.du id _ hm).1
theorem aK.nQ{id s:Nat}{et:TypeId}(h:aK P μ φ w id s et es):es.length≤(φ id).cap∧(φ id).cap≤maxLen:=by obtain⟨a1,a2,a3,a4,a5,a6,a7⟩:=h;grind
variable{x:V}{k:Nat→bp→Option R}{r:R}
theorem VV(h:Ew m x k=some r):∃n ft,(∀m2:Mem,(∀x∈ft,m2 x.2=m x.2)→∀(R':Type)(k':Nat→bp→Option R'),Ew m2 x k'=k' n ft)∧k n ft=some r∧(∀x∈ft,x.1=false)∧∀(P:Program)(G:Nat→Option (List PV))(w0:bu)(μ:Ro)(φ:Nat→aA)(w:World)(y:Value),aw P G w0 μ φ m w→ae P μ φ x y→(∀id,x.has id=true→(m id).isSome=true)→n≤maxLen∧∃a cap,y=.slice a n cap:=by
 unfold Ew at h;split at h
 ·refine⟨_,_,fun m2 _ R' k'=>by rfl,h,by simp,fun P G w0 μ φ w y hM hy _=>?_⟩;cases hy with
  |pv hy=>obtain⟨a,cap,rfl,hl⟩:=Y7 hy;simp_all
 ·refine⟨_,_,fun m2 _ R' k'=>by rfl,h,by simp,fun P G w0 μ φ w y hM hy _=>?_⟩;cases hy;simp
 ·rename_i id lo len;have key:∀(s:Nat)(et:TypeId)(es:List PV),(m id=some (.arr s et es)∨m id=some (.pt s et es))→∀(P:Program)(G:Nat→Option (List PV))(w0:bu)(μ:Ro)(φ:Nat→aA)(w:World)(y:Value),aw P G w0 μ φ m w→ae P μ φ (.fx id lo len) y→len≤maxLen∧∃a cap,y=.slice a len cap:=by
   intro s et es hm P G w0 μ φ w y hM hy;have hA:=hM.arr hm;have hl:=hA.nQ;cases hy with
   |pO=>simp
   |fx hg KV ha=>grind
  split at h
  ·rename_i s et es hm;exact⟨_,_,fun m2 cQ R' k'=>by have:=cQ (false,id) (by simp);simp_all[Ew],h,by simp,fun P G w0 μ φ w y hM hy _=>key s et es (.inl hm) P G w0 μ φ w y hM hy⟩
  ·rename_i s et es hm;exact⟨_,_,fun m2 cQ R' k'=>by have:=cQ (false,id) (by simp);simp_all[Ew],h,by simp,fun P G w0 μ φ w y hM hy _=>key s et es (.inr hm) P G w0 μ φ w y hM hy⟩
  ·cases h
 ·rename_i id;split at h
  ·rename_i s et es hm;refine⟨_,_,fun m2 cQ R' k'=>by have:=cQ (false,id) (by simp);simp_all[Ew],h,by simp,fun P G w0 μ φ w y hM hy _=>?_⟩;have hA:=hM.arr (.inl hm);have hl:=hA.nQ;obtain⟨a1,a2,a3,a4,a5,a6,a7⟩:=hA;refine⟨by omega,?_⟩;cases hy with
   |q6 hg=>simp_all
   |os hg=>simp_all
  ·rename_i s et es hm;refine⟨_,_,fun m2 cQ R' k'=>by have:=cQ (false,id) (by simp);simp_all[Ew],h,by simp,fun P G w0 μ φ w y hM hy _=>?_⟩;have hA:=hM.arr (.inr hm);have hl:=hA.nQ;obtain⟨a1,a2,a3,a4,a5,a6,a7⟩:=hA;refine⟨by omega,?_⟩;cases hy with
   |q6 hg=>simp_all
   |os hg=>simp_all
  ·rename_i s et es hm;refine⟨_,_,fun m2 cQ R' k'=>by have:=cQ (false,id) (by simp);simp_all[Ew],h,by simp,fun P G w0 μ φ w y hM hy _=>?_⟩;have hA:aX P μ φ w id s et es:=hM.du id _ hm;obtain⟨a1,a2,a3,a4,a5,a6,a7⟩:=hA;have hl:es.length≤(φ id).cap:=by grind
   refine⟨by omega,?_⟩;cases hy with
   |q6 hg=>simp_all
   |os hg=>simp_all
  ·rename_i cs hm;split at h
   ·rename_i hlen;refine⟨_,_,fun m2 cQ R' k'=>by have:=cQ (false,id) (by simp);simp_all[Ew],h,by simp,fun P G w0 μ φ w y hM hy _=>?_⟩;obtain⟨g,c,T,hg,hh,hs,hv,sy,zJ⟩:=hM.du id _ hm;refine⟨hlen,?_⟩;cases hy with
    |q6 cv=>simp_all
    |os cv=>simp_all
   ·cases h
  ·cases h
 ·cases h
theorem VW(h:Qy sz m x k=some r):∃n ft,(∀m2:Mem,(∀x∈ft,m2 x.2=m x.2)→∀(R':Type)(k':Nat→bp→Option R'),Qy sz m2 x k'=k' n ft)∧k n ft=some r∧(∀x∈ft,x.1=false)∧∀(P:Program)(G:Nat→Option (List PV))(w0:bu)(μ:Ro)(φ:Nat→aA)(w:World)(y:Value),aw P G w0 μ φ m w→ae P μ φ x y→(∀id,x.has id=true→(m id).isSome=true)→n≤maxLen∧∃a cap,y=.slice a n cap:=by
 unfold Qy at h;split at h
 ·rename_i id i off;split at h
  ·rename_i s et es hm;obtain⟨e,he,h⟩:=By.1 h;obtain⟨rs,hr,h⟩:=By.1 h;refine⟨_,_,fun m2 cQ R' k'=>by have:=cQ (false,id) (by simp);simp_all[Qy],h,by simp,fun P G w0 μ φ w y hM hy _=>?_⟩;have hN:aX P μ φ w id s et es:=hM.du id _ hm;obtain⟨_,_,_,_,⟨⟨Eo,hA⟩,_⟩,_⟩:=hN.row he hr;have hl:=hA.nQ;have a1:=hA.1;refine⟨by omega,?_⟩;have hy:=hy.Li (ν:=μ);cases hy with
   |q6 hg=>have a7:=hA.2.2.2.2.2.2;simp_all
   |os hg=>simp_all
  ·cases h
 ·rename_i cL;obtain⟨n,ft,h1,h2,h3,h4⟩:=VV h;refine⟨n,ft,fun m2 cQ R' k'=>?_,h2,h3,h4⟩;unfold Qy;simp_all
theorem VX(h:Su m x k=some r):∃n ft,(∀m2:Mem,(∀x∈ft,m2 x.2=m x.2)→∀(R':Type)(k':Nat→bp→Option R'),Su m2 x k'=k' n ft)∧k n ft=some r∧(∀x∈ft,x.1=false)∧n≤maxLen∧∀(P:Program)(G:Nat→Option (List PV))(w0:bu)(μ:Ro)(φ:Nat→aA)(w:World)(y:Value)(t kt et ty:TypeId),P.underlying t=some (.map kt et)→aw P G w0 μ φ m w→ae P μ φ x y→(Builtin.len_ #[t] ty #[y]).run P w=.ok (.int .i64 n) w:=by
 unfold Su at h;split at h
 ·rename_i id;split at h
  ·rename_i kt es hm;split at h
   ·rename_i hl;refine⟨_,_,fun m2 cQ R' k'=>by have:=cQ (false,id) (by simp);simp_all[Su],h,by simp,hl,fun P G w0 μ φ w y t kt et ty hu hM hy=>?_⟩;cases hy with
    | @om _ g hg=>obtain⟨g',en,clock,kk,cv,hh,hs,_⟩:=hM.du id _ hm;simp_all[AI,Builtin.len_,run_underlying,getObj,Sem.run,goInt]
   ·cases h
  ·cases h
 ·refine⟨_,_,fun m2 _ R' k'=>by rfl,h,by simp,by simp,fun P G w0 μ φ w y t kt et ty hu hM hy=>?_⟩;cases hy with
  |pv hy=>cases hy;simp[Builtin.len_,run_underlying hu,goInt]
 ·cases h
variable{t:TypeId}
theorem VY{k:V→bp→Option R}(h:Ie E t x m k=some r):∃v ft,(∀m2:Mem,(∀x∈ft,m2 x.2=m x.2)→∀(R':Type)(k':V→bp→Option R'),Ie E t x m2 k'=k' v ft)∧k v ft=some r∧(∀x∈ft,x.1=false)∧(∀id,v.has id=false)∧∀(G:Nat→Option (List PV))(w0:bu)(μ:Ro)(φ:Nat→aA)(w:World)(y:Value)(ty:TypeId),aw E.P G w0 μ φ m w→ae E.P μ φ x y→(∀id,x.has id=true→(m id).isSome=true)→∃z,(Builtin.len_ #[t] ty #[y]).run E.P w=.ok z w∧ae E.P μ φ v z:=by
 unfold Ie at h;split at h
 ·rename_i n e hu;split at h
  ·rename_i hn;exact⟨_,_,fun m2 _ R' k'=>by simp[Ie,hu,hn],h,by simp,by simp,fun G w0 μ φ w y ty hM hy _=>⟨_,by simp[Builtin.len_,run_underlying hu,goInt],.pv (.int (CE hn))⟩⟩
  ·cases h
 ·rename_i hu;split at h
  ·refine⟨_,_,fun m2 _ R' k'=>by simp[Ie,hu],h,by simp,by simp,fun G w0 μ φ w y ty hM hy _=>?_⟩;cases hy with
   |pv hy=>cases hy with
    | @str s hl=>exact⟨_,by simp[Builtin.len_,run_underlying hu,goInt,CD],.pv (.int (CE hl))⟩
  ·cases h
 ·rename_i e hu;obtain⟨n,ft,h1,h2,h3,h4⟩:=VW h;refine⟨_,ft,fun m2 cQ R' k'=>by simp only[Ie,hu];rw[h1 m2 cQ],h2,h3,by simp,fun G w0 μ φ w y ty hM hy hq=>?_⟩;obtain⟨hl,a,cap,rfl⟩:=h4 _ _ _ _ _ _ _ hM hy hq;exact⟨_,by simp[Builtin.len_,run_underlying hu,goInt],.pv (.int (CE hl))⟩
 ·rename_i kt et hu;obtain⟨n,ft,h1,h2,h3,hl,h4⟩:=VX h;refine⟨_,ft,fun m2 cQ R' k'=>by simp only[Ie,hu];rw[h1 m2 cQ],h2,h3,by simp,fun G w0 μ φ w y ty hM hy hq=>?_⟩;exact⟨_,h4 _ _ _ _ _ _ _ _ _ _ _ hu hM hy,.pv (.int (CE hl))⟩
 ·cases h
theorem CF{d i:Int}{v:Option V}(h:je d v=some i):(v=none∧i=d)∨∃q,v=some (.pv (.int q i)):=by unfold je at h;grind
theorem run_sliceBound{P:Program}{w:World}{q:IntKind}{i:Int}{y:Nat}{code:BoundsCode}(h0:0≤i)(h1:i≤(y:Int)):(Instr.sliceBound (.int q i) y code).run P w=.ok i.toNat w:=by simp[Instr.sliceBound,asIntOf,h0,h1]
variable{CG mT:Option Value}
theorem la{isS:Bool}{len cap:Nat}{l h:Int}{lo hi:Option V}(hl:je 0 lo=some l)(hh:je len hi=some h)(rl:∀v,lo=some v→∃y,CG=some y∧ae P μ φ v y)(rl0:lo=none→CG=none)(rh:∀v,hi=some v→∃y,mT=some y∧ae P μ φ v y)(rh0:hi=none→mT=none)(b0:0≤l)(b1:l≤h)(b2:h≤(len:Int))(b3:len≤cap):(Instr.sliceBounds isS len cap CG mT none).run P w=.ok (l.toNat,h.toNat,cap) w:=by
 have e1:∃y,(mT=none∧h=len)∨(mT=some y∧∃q,y=.int q h):=by
  rcases CF hh with⟨rfl,rfl⟩|⟨q,rfl⟩
  ·simp_all
  ·obtain⟨y,rfl,hy⟩:=rh _ rfl;cases hy with
   |pv hy=>cases hy with
    |int hw=>simp
 have e2:∃y,(CG=none∧l=0)∨(CG=some y∧∃q,y=.int q l):=by
  rcases CF hl with⟨rfl,rfl⟩|⟨q,rfl⟩
  ·simp_all
  ·obtain⟨y,rfl,hy⟩:=rl _ rfl;cases hy with
   |pv hy=>cases hy with
    |int hw=>simp
 clear rl rl0 rh rh0 hl hh;obtain⟨y,⟨rfl,rfl⟩|⟨rfl,q,rfl⟩⟩:=e1<;>obtain⟨z,⟨rfl,rfl⟩|⟨rfl,q',rfl⟩⟩:=e2
 ·rfl
 ·simp_all[run_sliceBound,Instr.sliceBounds]
 ·have:= @run_sliceBound P w q h cap (if isS then BoundsCode.sliceAcap else .sliceAlen) (by omega) (by omega);simp[Instr.sliceBounds,this]
 ·have h1:= @run_sliceBound P w q h cap (if isS then BoundsCode.sliceAcap else .sliceAlen) (by omega) (by omega);have h2:= @run_sliceBound P w q' l h.toNat BoundsCode.sliceB b0 (by omega);simp[Instr.sliceBounds,h1,h2]
theorem str_slice{s:Bytes}{l h:Nat}(hl:l≤h)(hh:h≤s.length):(⟨s.toArray⟩:ByteArray).extract l h=⟨((s.take h).drop l).toArray⟩:=by apply ByteArray.ext;simp[ByteArray.data_extract,aif,aji,List.drop_take]
theorem SJ{x:Value}{l h:Nat}(hx:af P μ (.rs sz es) x)(hl:l≤h)(hh:h≤es.length):∃a cap,x=.slice a es.length cap∧es.length≤cap∧af P μ (.rs sz ((es.take h).drop l)) (.slice (if cap=l then a else a.map (·.add (l*sz))) (h-l) (cap-l)):=by
 have hlen:((es.take h).drop l).length=h-l:=by simp;omega
 cases hx with
 |ko=>
  simp at hh;subst hh;have:l=0:=by omega
  subst this;exact⟨none,0,rfl,by simp,by simpa using af.ko⟩
 | @Ez _ cap a hc=>
  simp at hh;subst hh;have:l=0:=by omega
  subst this;refine⟨some a,cap,rfl,by simp,?_⟩;have:(if cap=0 then some a else(some a).map (·.add (0*sz)))=some a:=by split<;>simp[Addr.add]
  rw[this];exact .Ez hc
 | @rs _ _ b o cap X h1 h2 h3 h4 h5 h6=>
  refine⟨_,cap,rfl,h1,?_⟩;have eH:∀(i:Nat)e,((es.take h).drop l)[i]?=some e→es[l+i]?=some e:=fun i e hi=>(eC (pR hi)).2;by_cases hz:h=l
  ·have:(es.take h).drop l=[]:=afl (by omega);rw[this];have SK:h-l=0:=by omega
   rw[SK];split
   ·exact .Ez (by omega)
   ·simp only[adN];exact .Ez (by omega)
  ·have hc:cap≠l:=by omega
   rw[IN hc];simp only[adN,Addr.add_mid];have:=af.rs (P:=P) (μ:=μ) (sz:=sz) (es:=(es.take h).drop l) (b:=b) (o:=o+l*sz) (cap:=cap-l) (fun i j=>X (l+i) j) (by omega) (by omega) (fun i e hi=>h3 _ e (eH i e hi)) (fun i e j p hi hj=>by grind) (fun i e j p hi hj=>h5 _ e j p (eH i e hi) hj) (fun i e j p hi hj=>h6 _ e j p (eH i e hi) hj);simp_all
theorem tt{e:TypeId}{a:Option Addr}{len cap l h:Nat}(hu:P.underlying t=some (.slice e))(hz:aR P e≠0)(hb:(Instr.sliceBounds true len cap CG mT none).run P w=.ok (l,h,cap) w):(Instr.sliceAt t (.slice a len cap) CG mT none).run P w=.ok (.slice (if cap=l then a else a.map (·.add (l*aR P e))) (h-l) (cap-l)) w:=by simp_all[Instr.sliceAt,Instr.slice,run_underlying,iU]
theorem QF{lo hi mx:Option V}{k:V→bp→Option R}(h:ti E t x lo hi mx m k=some r):∃v ft,(∀m2:Mem,(∀x∈ft,m2 x.2=m x.2)→∀(R':Type)(k':V→bp→Option R'),ti E t x lo hi mx m2 k'=k' v ft)∧k v ft=some r∧(∀x∈ft,x.1=false)∧(∀id,v.has id=true→x.has id=true)∧∀(G:Nat→Option (List PV))(w0:bu)(μ:Ro)(φ:Nat→aA)(w:World)(y:Value)(CG mT XO:Option Value),aw E.P G w0 μ φ m w→ae E.P μ φ x y→(∀v,lo=some v→∃y,CG=some y∧ae E.P μ φ v y)→(lo=none→CG=none)→(∀v,hi=some v→∃y,mT=some y∧ae E.P μ φ v y)→(hi=none→mT=none)→(∀v,mx=some v→∃y,XO=some y∧ae E.P μ φ v y)→(mx=none→XO=none)→∃z,(Instr.sliceAt t y CG mT XO).run E.P w=.ok z w∧ae E.P μ φ v z:=by
 unfold ti at h;split at h
 ·rename_i mv;split at h
  ·rename_i e id hu;split at h
   ·rename_i s et es hm;split at h
    ·rename_i qh hh qc c;split at h
     ·rename_i hb;refine⟨_,_,fun m2 cQ R' k'=>by have:=cQ (false,id) (by simp);simp_all[ti,BY],h,by simp,by simp[V.has],fun G w0 μ φ w y CG mT XO hM hy r1 r2 r3 r4 r5 r6=>?_⟩;have hA:=hM.arr (.inl hm);have hle:=hA.nQ;obtain⟨a1,a2,a3,a4,a5,a6,a7⟩:=hA;obtain⟨ym,rfl,hym⟩:=r5 _ rfl;have hlo:=r2 rfl;subst hlo;cases hym with
      |pv hym=>cases hym with
       |int hwc=>
        have hB:∀len cap:Nat,len=es.length→c≤(cap:Int)→(Instr.sliceBounds true len cap none mT (some (.int qc c))).run E.P w=.ok (0,hh.toNat,c.toNat) w:=by
         intro len cap hlen oz;have h1:= @run_sliceBound E.P w qc c cap BoundsCode.slice3Acap (by omega) oz;obtain⟨yh,rfl,hyh⟩:=r3 _ rfl;cases hyh with
         |pv hyh=>cases hyh with
          |int hwh=>have h2:= @run_sliceBound E.P w qh hh c.toNat BoundsCode.slice3B (by omega) (by omega);simp[Instr.sliceBounds,h1,h2]
        have hS:∀(a:Option Addr)(len cap:Nat),len=es.length→c≤(cap:Int)→(Instr.sliceAt t (.slice a len cap) none mT (some (.int qc c))).run E.P w=.ok (.slice (if c.toNat=0 then a else a.map (·.add (0*aR E.P e))) hh.toNat c.toNat) w:=by intro a len cap hlen oz;simp[Instr.sliceAt,Instr.slice,run_underlying hu,hB len cap hlen oz,iU (show aR E.P e≠0 by omega)]
        cases hy with
        |q6 hg=>
         rw[hg]at a7;have h0:es.length=0:=by omega
         refine⟨_,hS none 0 0 h0.symm (by omega),?_⟩;have e1:hh.toNat=0:=by omega
         have e2:c.toNat=0:=by omega
         rw[e1,e2];exact .pO hg
        | @os _ g hg=>
         refine⟨_,hS _ _ _ a1 (by omega),?_⟩;have:(if c.toNat=0 then some (⟨g,0,none⟩:Addr)else(some ⟨g,0,none⟩:Option Addr).map (·.add (0*aR E.P e)))=some ⟨g,0*(φ id).sz,none⟩:=by split<;>simp[Addr.add]
         rw[this];exact .fx hg (by omega) (.inl rfl) (by omega) (by omega)
     ·cases h
    ·cases h
   ·cases h
  ·cases h
 ·split at h
  ·rename_i s hu;split at h
   ·rename_i l hh hl Vx;split at h
    ·rename_i hb;refine⟨_,_,fun m2 _ R' k'=>by simp_all[ti,BY],h,by simp,by simp,fun G w0 μ φ w y CG mT XO hM hy r1 r2 r3 r4 _ r6=>?_⟩;have hmx:=r6 rfl;subst hmx;cases hy with
     |pv hy=>cases hy with
      |str hlen=>have hB:=la (P:=E.P) (w:=w) (isS:=false) (cap:=s.length) hl Vx r1 r2 r3 r4 hb.1 hb.2.1 hb.2.2 (agM _);refine⟨_,?_,.pv (.str (s:=(s.take hh.toNat).drop l.toNat) (by simp;omega))⟩;simp only[Instr.sliceAt,Instr.slice,Sem.run_bind,run_underlying hu,Result.andThen_ok,CD,hB];simp only[aje,AT,Xq,Sem.run_bind,Sem.run_pure,Result.andThen_ok,hB];rw[str_slice (by omega) (by omega)]
    ·cases h
   ·cases h
  ·rename_i e sz es hu;split at h
   ·rename_i l hh hl Vx;split at h
    ·rename_i hb;refine⟨_,_,fun m2 _ R' k'=>by simp_all[ti,BY],h,by simp,by simp,fun G w0 μ φ w y CG mT XO hM hy r1 r2 r3 r4 _ r6=>?_⟩;have hmx:=r6 rfl;subst hmx;cases hy with
     |pv hy=>obtain⟨a,cap,rfl,hc,hr⟩:=SJ (l:=l.toNat) (h:=hh.toNat) hy (by omega) (by omega);have hB:=la (P:=E.P) (w:=w) (isS:=true) (cap:=cap) hl Vx r1 r2 r3 r4 hb.1 hb.2.1 hb.2.2.1 hc;exact⟨_,tt hu hb.2.2.2.2 hB,by rw[←hb.2.2.2.1];exact .pv hr⟩
    ·cases h
   ·cases h
  ·rename_i e id hu;have key:∀(s:Nat)(et:TypeId)(es:List PV)(l hh:Int),(m id=some (.arr s et es)∨m id=some (.pt s et es))→je 0 lo=some l→je es.length hi=some hh→(0≤l∧l≤hh∧hh≤(es.length:Int)∧s=aR E.P e)→∀(G:Nat→Option (List PV))(w0:bu)(μ:Ro)(φ:Nat→aA)(w:World)(y:Value)(CG mT:Option Value),aw E.P G w0 μ φ m w→ae E.P μ φ (.os id) y→(∀v,lo=some v→∃y,CG=some y∧ae E.P μ φ v y)→(lo=none→CG=none)→(∀v,hi=some v→∃y,mT=some y∧ae E.P μ φ v y)→(hi=none→mT=none)→∃z,(Instr.sliceAt t y CG mT none).run E.P w=.ok z w∧ae E.P μ φ (.fx id l.toNat (hh.toNat-l.toNat)) z:=by
    intro s et es l hh hm hl Vx hb G w0 μ φ w y CG mT hM hy r1 r2 r3 r4;have hA:=hM.arr hm;have hle:=hA.nQ;obtain⟨a1,a2,a3,a4,a5,a6,a7⟩:=hA;cases hy with
    |q6 hg=>
     rw[hg]at a7;have h0:es.length=0:=by omega
     have hB:=la (P:=E.P) (w:=w) (isS:=true) (cap:=0) hl Vx r1 r2 r3 r4 hb.1 hb.2.1 hb.2.2.1 (by omega);rw[h0]at hB;refine⟨_,tt hu (by omega) hB,?_⟩;have e1:l.toNat=0:=by omega
     have e2:hh.toNat=0:=by omega
     rw[e1,e2];exact .pO hg
    | @os _ g hg=>
     have hB:=la (P:=E.P) (w:=w) (isS:=true) (cap:=(φ id).cap) hl Vx r1 r2 r3 r4 hb.1 hb.2.1 hb.2.2.1 (by omega);rw[←a1]at hB;refine⟨_,tt hu (by omega) hB,?_⟩;by_cases hc:(φ id).cap=l.toNat
     ·rw[BY hc];by_cases h0:l.toNat=0
      ·rw[h0];exact .fx hg (by omega) (.inl (by simp)) (by omega) (by omega)
      ·exact .fx hg (by omega) (.inr ⟨hc,by omega⟩) (by omega) (by omega)
     ·rw[IN hc];simp only[adN,Addr.add_mid,ahp];refine .fx hg (by omega) (.inl ?_) (by omega) (by omega);rw[a2,hb.2.2.2]
   split at h
   ·rename_i s et es hm;split at h
    ·rename_i l hh hl Vx;split at h
     ·rename_i hb;exact⟨_,_,fun m2 cQ R' k'=>by have:=cQ (false,id) (by simp);simp_all[ti,BY],h,by simp,by simp[V.has],fun G w0 μ φ w y CG mT XO hM hy r1 r2 r3 r4 _ r6=>by rw[r6 rfl];exact key s et es l hh (.inl hm) hl Vx hb G w0 μ φ w y CG mT hM hy r1 r2 r3 r4⟩
     ·cases h
    ·cases h
   ·rename_i s et es hm;split at h
    ·rename_i l hh hl Vx;split at h
     ·rename_i hb;exact⟨_,_,fun m2 cQ R' k'=>by have:=cQ (false,id) (by simp);simp_all[ti,BY],h,by simp,by simp[V.has],fun G w0 μ φ w y CG mT XO hM hy r1 r2 r3 r4 _ r6=>by rw[r6 rfl];exact key s et es l hh (.inr hm) hl Vx hb G w0 μ φ w y CG mT hM hy r1 r2 r3 r4⟩
     ·cases h
    ·cases h
   ·cases h
  ·cases h
end
end Go.Ab
