import Derived.Test.YtanikidijjaohaaGreatAbEval
import Derived.Below
import Derived.Laws.CopyRow
import Derived.Deep.MidRow
set_option linter.unusedVariables false
namespace Go.Ab
open Go.RowKit (Below)
abbrev Ro:=Nat→Option Obj
def W0:Bool:=true
structure kG(B:Nat)(w w':World):Prop extends Below B w w' where
 drawn:W0=true→w.drawn≤w'.drawn
namespace kG
theorem refl(B:Nat)(w:World):kG B w w:=⟨Below.refl B w,fun _=>Nat.le_refl _⟩
theorem trans{B:Nat}{a b c:World}(h:kG B a b)(k:kG B b c):kG B a c:=⟨h.toBelow.trans k.toBelow,fun u=>Nat.le_trans (h.drawn u) (k.drawn u)⟩
theorem mono{B B':Nat}{w w':World}(h:kG B w w')(hB:B'≤B):kG B' w w':=⟨h.toBelow.mono hB,h.drawn⟩
theorem drew{B:Nat}{a w:World}(h:kG B a w):kG B a w.drew:=⟨h.toBelow.drew,fun u=>Nat.le_succ_of_le (h.drawn u)⟩
theorem heap_alloc(w:World)(o:Obj)(k:Nat)(h:k<w.heap.size):(w.alloc o).heap[k]?=w.heap[k]?:=Below.heap_alloc w o k h
theorem alloc{B:Nat}{a w:World}(h:kG B a w)(hB:B≤w.heap.size)(o:Obj):kG B a (w.alloc o):=⟨h.toBelow.alloc hB o,h.drawn⟩
end kG
def Jmp.code:Jmp→Code
 |.ret=>.ret
 |.exit id=>.exit id
def LG.obj(rc:Loop):LG→Loop
 |.ready=>{rc with state:=.ready,pending:=none}
 |.busy=>{rc with state:=.busy,pending:=none}
 |.done j=>{rc with state:=.done,pending:=some j.code}
def cellAt(μ:Ro)(b o:Nat):Option Value:=match μ b with|some (.cells c _ _)=>c[o]?|_=>none
def zh(f:FuncId)(xs:Array Value):Value:=if f<Cg then .func (.func f) #[] xs else .func (.func (f-Cg)) xs #[]
variable{xs:Array Value}
theorem qo{f:FuncId}(h:Nat.blt f Cg=true):zh f xs=.func (.func f) #[] xs:=if_pos (by rwa[Nat.blt_eq]at h)
theorem Jk{f:FuncId}(h:Nat.blt f Cg=false):zh f xs=.func (.func (f-Cg)) xs #[]:=if_neg (by rw[←Bool.not_eq_true,Nat.blt_eq]at h;exact h)
theorem qp(f:FuncId)(xs:Array Value):∃g a b,zh f xs=.func (.func g) a b:=by
 unfold zh;split
 ·exact⟨_,_,_,rfl⟩
 ·exact⟨_,_,_,rfl⟩
theorem FU(f:FuncId)(xs:Array Value):(zh f xs).oneCell'=true:=by obtain⟨g,a,b,h⟩:=qp f xs;rw[h];rfl
inductive af(P:Program)(μ:Ro):PV→Value→Prop
 |int {k:IntKind} {n:Int}:(Lit.int k n).wf=true→af P μ (.int k n) (.int k n)
 |bool {b:Bool}:af P μ (.bool b) (.bool b)
 |str {s:Bytes}:s.length≤maxLen→af P μ (.str s) (.string ⟨s.toArray⟩)
 |agg {cs:List PV} {xs:Array Value}:cs.length=xs.size→(∀(i:Nat)p x,cs[i]?=some p→xs[i]?=some x→af P μ p x)→(∀(i:Nat)(x:Value),xs[i]?=some x→x.oneCell'=true)→af P μ (.agg cs) (.agg xs)
 |bt {cs:List PV} {xs:Array Value}:cs.length=xs.size→(∀(i:Nat)p x,cs[i]?=some p→xs[i]?=some x→af P μ p x)→af P μ (.bt cs) (.tuple xs)
 |pF:af P μ .pF (.pointer none)
 |rp {cs:List PV} {b o:Nat} (X:Nat→Value):(∀(i:Nat)p,cs[i]?=some p→cellAt μ b (o+i)=some (X i))→(∀(i:Nat)p,cs[i]?=some p→af P μ p (X i))→(∀i:Nat,i<cs.length→(X i).oneCell'=true)→af P μ (.rp cs) (.pointer (some ⟨b,o,none⟩))
 |kE {sz:Nat}:af P μ (.rs sz []) (.slice none 0 0)
 |Fk {sz cap:Nat} {a:Addr}:cap≤maxLen→af P μ (.rs sz []) (.slice (some a) 0 cap)
 |rs {sz:Nat} {es:List PV} {b o cap:Nat} (X:Nat→Nat→Value):es.length≤cap→cap≤maxLen→(∀(i:Nat)e,es[i]?=some e→e.cells.length=sz)→(∀(i:Nat)e(j:Nat)p,es[i]?=some e→e.cells[j]?=some p→cellAt μ b (o+i*sz+j)=some (X i j))→(∀(i:Nat)e(j:Nat)p,es[i]?=some e→e.cells[j]?=some p→af P μ p (X i j))→(∀(i:Nat)e(j:Nat)p,es[i]?=some e→e.cells[j]?=some p→(X i j).oneCell'=true)→af P μ (.rs sz es) (.slice (some ⟨b,o,none⟩) es.length cap)
 |ve:af P μ .ve (.map none)
 |rm {kt:TypeId} {ks vs:List PV} {b clock:Nat} {en:Array MapEntry} {kk:List Kd}:μ b=some (.map en clock)→en.size=ks.length→vs.length=ks.length→rR P kt=some kk→(∀(i:Nat)k,ks[i]?=some k→uS P kt kk k=true)→(∀(i:Nat)k e,ks[i]?=some k→en[i]?=some e→af P μ k e.key)→(∀(i:Nat)v e,vs[i]?=some v→en[i]?=some e→af P μ v e.val)→af P μ (.rm kt ks vs) (.map (some b))
 |Ao:af P μ .Ao .nilFunc
 |fn {f:FuncId} {cs:List PV} {xs:Array Value}:cs.length=xs.size→(∀(i:Nat)p x,cs[i]?=some p→xs[i]?=some x→af P μ p x)→af P μ (.fn f cs) (zh f xs)
 |TK:af P μ (.WC false) .nilIface
 |W2 {t:TypeId} {x:Value}:af P μ (.WC true) (.iface t x)
 |bad {x:Value}:af P μ .bad x
structure xq(P:Program)(μ:Ro)(g:Nat)(cs:List PV):Prop where
 rep:af P μ (.rp cs) (.pointer (some ⟨g,0,none⟩))
 size:∃c T z,μ g=some (.cells c T z)∧c.size=cs.length
structure BE where
 g:Option Nat
 cap:Nat
 len:Nat
 sz:Nat
 deriving Inhabited
structure aA extends BE where
 row:Nat→Nat→BE:=fun _ _=>default
 deriving Inhabited
abbrev Ci(g:Option Nat)(cap len sz:Nat):aA:={g,cap,len,sz}
def BE.up(p:BE):aA:={toBE:=p}
inductive ae(P:Program)(μ:Ro)(φ:Nat→aA):V→Value→Prop
 |pv {p:PV} {x:Value}:af P μ p x→ae P μ φ (.pv p) x
 |hZ:ae P μ φ .hZ (.slice none 0 0)
 |op {id off g:Nat}:(φ id).g=some g→ae P μ φ (.op id off) (.pointer (some ⟨g,off,none⟩))
 |oe {id i off g:Nat}:(φ id).g=some g→ae P μ φ (.oe id i off) (.pointer (some ⟨g,i*(φ id).sz+off,none⟩))
 |rL {id:Nat}:(φ id).g=none→ae P μ φ (.os id) (.slice none 0 0)
 |os {id g:Nat}:(φ id).g=some g→ae P μ φ (.os id) (.slice (some ⟨g,0,none⟩) (φ id).len (φ id).cap)
 |qn {id:Nat}:(φ id).g=none→ae P μ φ (.fH id 0 0) (.slice none 0 0)
 |fH {id lo len cap g:Nat} {a:Addr}:(φ id).g=some g→lo+len≤(φ id).len→(a=⟨g,lo*(φ id).sz,none⟩∨((φ id).cap=lo∧0<lo))→len≤cap→lo+cap≤(φ id).cap→ae P μ φ (.fH id lo len) (.slice (some a) len cap)
 |Hq {id i off:Nat}:((φ id).row i off).g=none→ae P μ φ (.vp id i off) (.slice none 0 0)
 |vp {id i off g:Nat}:((φ id).row i off).g=some g→ae P μ φ (.vp id i off) (.slice (some ⟨g,0,none⟩) ((φ id).row i off).len ((φ id).row i off).cap)
 |y7 {id i off s j off2 g:Nat}:((φ id).row i off).g=some g→((φ id).row i off).sz=s→ae P μ φ (.y7 id i off s j off2) (.pointer (some ⟨g,j*s+off2,none⟩))
 |om {id g:Nat}:(φ id).g=some g→ae P μ φ (.om id) (.map (some g))
 |yl {id g:Nat}:(φ id).g=some g→ae P μ φ (.yl id) (.func (.yield g) #[] #[])
 |it {id g:Nat}:(φ id).g=some g→ae P μ φ (.it id) (.pointer (some ⟨g,0,none⟩))
 |fn {f:FuncId} {cs:List V} {xs:Array Value}:cs.length=xs.size→(∀(i:Nat)p x,cs[i]?=some p→xs[i]?=some x→ae P μ φ p x)→ae P μ φ (.fn f cs) (zh f xs)
 |agg {cs:List V} {xs:Array Value}:cs.length=xs.size→(∀(i:Nat)p x,cs[i]?=some p→xs[i]?=some x→ae P μ φ p x)→(∀(i:Nat)(x:Value),xs[i]?=some x→x.oneCell'=true)→ae P μ φ (.agg cs) (.agg xs)
 |bt {cs:List V} {xs:Array Value}:cs.length=xs.size→(∀(i:Nat)p x,cs[i]?=some p→xs[i]?=some x→ae P μ φ p x)→ae P μ φ (.bt cs) (.tuple xs)
 |top {x:Value}:ae P μ φ .top x
def aF(P:Program)(μ:Ro)(φ:Nat→aA)(w:World)(id sz:Nat)(et:TypeId)(es:List PV):Prop:=
 (φ id).len=es.length∧(φ id).sz=sz∧sz=aP P et∧0<sz∧(∀(i:Nat)e,es[i]?=some e→e.cells.length=sz)∧(φ id).cap≤maxLen∧
 match(φ id).g with
 |none=>es=[]∧(φ id).cap=0
 |some g=>∃(c:Array Value)(T:TypeId),w.heap[g]?=some (.cells c T (0,0))∧(φ id).cap*sz≤c.size∧es.length≤(φ id).cap∧(∀(i:Nat)e(j:Nat)p x,es[i]?=some e→e.cells[j]?=some p→c[i*sz+j]?=some x→af P μ p x)∧(∀(i:Nat)(x:Value),i<es.length*sz→c[i]?=some x→x.oneCell'=true)
def bE.rowAt:bE→Nat→Nat→Bool
 |.nest _ _ es,i,off=>match es[i]? with
  |some e=>match e.cells[off]? with
   |some p=>p.isRow
   |none=>false
  |none=>false
 |.fe _ _ es,i,0=>match es[i]? with
  |some x=>x.2.isRow
  |none=>false
 |_,_,_=>false
def eN(P:Program)(μ:Ro)(R:BE)(w:World)(s:Nat)(rs:List PV)(x:Value):Prop:=(∃et,aF P μ (fun _=>R.up) w 0 s et rs)∧ae P μ (fun _=>R.up) (.os 0) x
def eh(P:Program)(μ:Ro)(R:BE)(w:World)(p:PV)(x:Value):Prop:=match p with
 |.pG s rs=>eN P μ R w s rs x
 |p=>af P μ p x
def aV(P:Program)(μ:Ro)(φ:Nat→aA)(w:World)(id sz:Nat)(et:TypeId)(es:List PV):Prop:=
 (φ id).len=es.length∧(φ id).sz=sz∧sz=aP P et∧0<sz∧(∀(i:Nat)e,es[i]?=some e→e.cells.length=sz)∧(φ id).cap≤maxLen∧
 match(φ id).g with
 |none=>es=[]∧(φ id).cap=0
 |some g=>∃(c:Array Value)(T:TypeId),w.heap[g]?=some (.cells c T (0,0))∧(φ id).cap*sz≤c.size∧es.length≤(φ id).cap∧(∀(i:Nat)e(j:Nat)p x,es[i]?=some e→e.cells[j]?=some p→c[i*sz+j]?=some x→eh P μ ((φ id).row i j) w p x)∧(∀(i:Nat)(x:Value),i<es.length*sz→c[i]?=some x→x.oneCell'=true)
def lE(en:Array MapEntry)(clock:Nat):Prop:=∀(i:Nat)e,en[i]?=some e→e.born<clock∧∀(j:Nat)e',en[j]?=some e'→e'.born=e.born→j=i
def kS(en:Array MapEntry)(seen:Array Nat):List MapEntry:=en.toList.filter fun e=> !seen.contains e.born
def gC(P:Program)(μ:Ro)(φ:Nat→aA)(w:World)(id:Nat):bE→Prop
 |.box cs=>∃(g:Nat)(c:Array Value)(T:TypeId),(φ id).g=some g∧w.heap[g]?=some (.cells c T (0,0))∧c.size=cs.length∧(∀(i:Nat)v x,cs[i]?=some v→c[i]?=some x→ae P μ φ v x)∧(∀(i:Nat)(x:Value),c[i]?=some x→x.oneCell'=true)∧(φ id).len=cs.length
 |.arr sz et es=>aF P μ φ w id sz et es
 |.pR sz et es=>aF P μ φ w id sz et es∧∀g,(φ id).g=some g→(μ g).isSome
 |.map kt es=>∃(g:Nat)(en:Array MapEntry)(clock:Nat)(kk:List Kd),(φ id).g=some g∧w.heap[g]?=some (.map en clock)∧en.size=es.length∧rR P kt=some kk∧(∀(i:Nat)k v,es[i]?=some (k,v)→uS P kt kk k=true)∧lE en clock∧(∀(i:Nat)k v e,es[i]?=some (k,v)→en[i]?=some e→af P μ k e.key∧af P μ v e.val)
 |.nest sz et es=>aV P μ φ w id sz et es
 |.fe kt e0 es=>∃(g:Nat)(en:Array MapEntry)(clock:Nat)(kk:List Kd),(φ id).g=some g∧w.heap[g]?=some (.map en clock)∧en.size=es.length∧rR P kt=some kk∧(∀(i:Nat)k v,es[i]?=some (k,v)→uS P kt kk k=true)∧lE en clock∧(∀(i:Nat)k v e,es[i]?=some (k,v)→en[i]?=some e→af P μ k e.key∧(match v with
  |.pG s rs=>aF P μ (fun _=>((φ id).row i 0).up) w 0 s e0 rs∧ae P μ (fun _=>((φ id).row i 0).up) (.os 0) e.val
  |v=>af P μ v e.val))
 |.iter t es cur=>∃(g mg:Nat)(en:Array MapEntry)(clock:Nat)(seen:Array Nat),(φ id).g=some g∧w.heap[g]?=some (.mapIter (some mg) clock seen clock)∧μ mg=some (.map en clock)∧lE en clock∧(kS en seen).length=es.length∧(∀(i:Nat)k v e,es[i]?=some (k,v)→(kS en seen)[i]?=some e→af P μ k e.key∧af P μ v e.val)∧∀k v,cur=some (k,v)→∃(i:Nat)(e:MapEntry),en[i]?=some e∧seen.back? =some e.born∧af P μ k e.key∧af P μ v e.val
 |.loop st=>∃(g:Nat)(rc:Loop),(φ id).g=some g∧w.heap[g]?=some (.loop (st.obj rc))
def bE.jD:bE→Bool
 |.pR .. =>false
 |_=>true
structure br where
 w:World
 mu:Ro
 sv:Nat→Value
 dA:Ro:=fun _=>none
 l5:Ro:=fun _=>none
 rc:Nat→Option (Nat×Loop):=fun _=>none
abbrev br.heap(B:br):Array Obj:=B.w.heap
def bE.owns(b:bE)(p:aA)(g:Nat):Prop:=p.g=some g∨∃i off,b.rowAt i off=true∧(p.row i off).g=some g
def bE.apart(b:bE)(p:aA):Prop:=∀i off g,b.rowAt i off=true→(p.row i off).g=some g→p.g≠some g∧∀i' si,b.rowAt i' si=true→(p.row i' si).g=some g→i'=i∧si=off
structure av(P:Program)(G:Nat→Option (List PV))(w0:br)(μ:Ro)(φ:Nat→aA)(m:Mem)(w:World):Prop where
 below:kG w0.heap.size w0.w w
 ro:∀b o,μ b=some o→w.heap[b]?=some o
 aD:∀g cs,G g=some cs→xq P μ g cs
 dy:∀id b,m id=some b→gC P μ φ w id b
 own:∀id b g,m id=some b→b.owns (φ id) g→w0.heap.size≤g∧(b.jD=true→μ g=none)
 inj:∀Tj id2 b1 b2 g,m Tj=some b1→m id2=some b2→b1.owns (φ Tj) g→b2.owns (φ id2) g→Tj=id2
 apart:∀id b,m id=some b→b.apart (φ id)
 fJ:∀j cs id,m j=some (.box cs)→cm id cs=true→(m id).isSome=true
 base:∀b o,μ b=some o→b<w0.heap.size→w0.mu b=some o
 dA:∀b o,w0.dA b=some o→μ b=some o
 BD:∀id st,m id=some (.loop st)→∃g rc,(φ id).g=some g∧w0.rc id=some (g,rc)∧w.heap[g]?=some (.loop (st.obj rc))
def az(nt:Nat)(w0:br)(a:Act):Nat→Value:=fun t=>if t<nt then a.tmps.getD t undef else w0.sv t
theorem qm{nt:Nat}{w0:br}{a:Act}{t:Nat}(h:t<nt):az nt w0 a t=a.tmps.getD t undef:=if_pos h
def Marks(B:Nat)(l5 μ:Ro)(ds:List Deferred):Prop:=∃Ds:List Nat,ds=Ds.map (fun D=>{target:=.collected D,args:= #[]})∧Ds.Nodup∧∀D∈Ds,B≤D∧l5 D=none∧μ D=some (.deferred (some []))
theorem Marks.nil(B:Nat)(l5 μ:Ro):Marks B l5 μ []:=⟨[],rfl,.nil,by simp⟩
theorem Marks.mono{B:Nat}{l5 μ μ':Ro}(h:∀b o,μ b=some o→μ' b=some o){ds:List Deferred}:Marks B l5 μ ds→Marks B l5 μ' ds
 |⟨Ds,e,hn,hD⟩=>⟨Ds,e,hn,fun D hd=>⟨(hD D hd).1,(hD D hd).2.1,h _ _ (hD D hd).2.2⟩⟩
structure Rel(P:Program)(G:Nat→Option (List PV))(nt:Nat)(w0:br)(μ:Ro)(φ:Nat→aA)(f:Fr)(m:Mem)(a:Act)(w:World):Prop extends av P G w0 μ φ m w where
 size:a.tmps.size=nt
 defers:Marks w0.heap.size w0.l5 μ a.defers
 l5:∀b o,w0.l5 b=some o→w0.dA b=some o
 fr:∀t,ae P μ φ (f t) (az nt w0 a t)
 live:∀t id,(f t).has id=true→(m id).isSome=true
section
variable {P:Program} {μ μ':Ro} {φ φ':Nat→aA}
variable{x:Value}
theorem BF(h:∀b o,μ b=some o→μ' b=some o){b o:Nat}(hx:cellAt μ b o=some x):cellAt μ' b o=some x:=by
 unfold cellAt at*;split at hx
 ·rename_i c t fz hb;rw[h _ _ hb];exact hx
 ·cases hx
variable{p:PV}
theorem af.mono(h:∀b o,μ b=some o→μ' b=some o)(hp:af P μ p x):af P μ' p x:=by
 induction hp with
 |int h=>exact .int h
 |bool=>exact .bool
 |str h=>exact .str h
 |agg h1 _ h3 ih=>exact .agg h1 ih h3
 |bt h1 _ ih=>exact .bt h1 ih
 |pF=>exact .pF
 |rp X h1 _ h3 ih=>exact .rp X (fun i p hi=>BF h (h1 i p hi)) ih h3
 |kE=>exact .kE
 |Fk h=>exact .Fk h
 |rs X h1 h2 h3 h4 _ h6 ih=>exact .rs X h1 h2 h3 (fun i e j p hi hj=>BF h (h4 i e j p hi hj)) ih h6
 |ve=>exact .ve
 |rm h1 h2 h3 h4 h5 _ _ ih1 ih2=>exact .rm (h _ _ h1) h2 h3 h4 h5 ih1 ih2
 |Ao=>exact .Ao
 |fn h1 _ ih=>exact .fn h1 ih
 |TK=>exact .TK
 |W2=>exact .W2
 |bad=>exact .bad
theorem xq.mono(h:∀b o,μ b=some o→μ' b=some o){g:Nat}{cs:List PV}(hv:xq P μ g cs):xq P μ' g cs:=⟨hv.rep.mono h,let⟨c,T,z,h1,h2⟩:=hv.size;⟨c,T,z,h _ _ h1,h2⟩⟩
theorem bI{id:Nat}{v:V}:∀{cs:List V},v∈cs→v.has id=true→cm id cs=true
 |c::r,hm,hv=>by
  rcases List.mem_cons.1 hm with rfl|hm
  ·simp[cm,hv]
  ·simp[cm,bI hm hv]
theorem cL{id:Nat}:∀{cs:List V},cm id cs=true↔∃v∈cs,v.has id=true
 |[]=>by simp[cm]
 |c::r=>by simp[cm,cL (cs:=r)]
theorem wM{id:Nat}{v:V}:∀{cs:List V},v∈cs→v.vg id=true→y8 id cs=true
 |c::r,hm,hv=>by
  rcases List.mem_cons.1 hm with rfl|hm
  ·simp[y8,hv]
  ·simp[y8,wM hm hv]
theorem ae.mono(h:∀b o,μ b=some o→μ' b=some o){v:V}{x:Value}(hv:ae P μ φ v x)(hφ:∀id,v.has id=true→φ' id=φ id):ae P μ' φ' v x:=by
 induction hv with
 |pv hp=>exact .pv (hp.mono h)
 |hZ=>exact .hZ
 |op hg=>exact .op (by rw[hφ _ (by simp[V.has])];exact hg)
 | @oe id i off g hg=>have e:=hφ id (by simp[V.has]);have:=ae.oe (P:=P) (μ:=μ') (φ:=φ') (id:=id) (i:=i) (off:=off) (g:=g) (by rw[e];exact hg);rw[e]at this;exact this
 | @rL id hg=>exact .rL (by rw[hφ id (by simp[V.has])];exact hg)
 | @os id g hg=>have e:=hφ id (by simp[V.has]);have:=ae.os (P:=P) (μ:=μ') (φ:=φ') (id:=id) (g:=g) (by rw[e];exact hg);rw[e]at this;exact this
 | @qn id hg=>exact .qn (by rw[hφ id (by simp[V.has])];exact hg)
 | @fH id lo len cap g a hg hl ha hc WZ=>have e:=hφ id (by simp[V.has]);exact ae.fH (P:=P) (μ:=μ') (φ:=φ') (id:=id) (lo:=lo) (len:=len) (cap:=cap) (g:=g) (a:=a) (by rw[e];exact hg) (by rw[e];exact hl) (by rw[e];exact ha) hc (by rw[e];exact WZ)
 | @Hq id i off hg=>exact .Hq (by rw[hφ id (by simp[V.has])];exact hg)
 | @vp id i off g hg=>have e:=hφ id (by simp[V.has]);have:=ae.vp (P:=P) (μ:=μ') (φ:=φ') (id:=id) (i:=i) (off:=off) (g:=g) (by rw[e];exact hg);rw[e]at this;exact this
 | @y7 id i off s j off2 g hg hs=>have e:=hφ id (by simp[V.has]);exact .y7 (by rw[e];exact hg) (by rw[e];exact hs)
 | @om id g hg=>exact .om (by rw[hφ id (by simp[V.has])];exact hg)
 | @yl id g hg=>exact .yl (by rw[hφ id (by simp[V.has])];exact hg)
 | @it id g hg=>exact .it (by rw[hφ id (by simp[V.has])];exact hg)
 |fn h1 _ ih=>exact .fn h1 (fun i p x hi hx=>ih i p x hi hx (fun id hid=>hφ id (by simp only[V.has];exact bI (List.mem_of_getElem? hi) hid)))
 |agg h1 _ h3 ih=>exact .agg h1 (fun i p x hi hx=>ih i p x hi hx (fun id hid=>hφ id (by simp only[V.has];exact bI (List.mem_of_getElem? hi) hid))) h3
 |bt h1 _ ih=>exact .bt h1 (fun i p x hi hx=>ih i p x hi hx (fun id hid=>hφ id (by simp only[V.has];exact bI (List.mem_of_getElem? hi) hid)))
 |top=>exact .top
variable{v:V}
theorem ae.YT(h:∀b o,μ b=some o→μ' b=some o)(hv:ae P μ φ v x)(hφ:∀id,v.has id=true→(φ' id).toBE=(φ id).toBE∧(v.vg id=true→φ' id=φ id)):ae P μ' φ' v x:=by
 induction hv with
 |pv hp=>exact .pv (hp.mono h)
 |hZ=>exact .hZ
 |op hg=>exact .op (by rw[(hφ _ (by simp[V.has])).1];exact hg)
 | @oe id i off g hg=>have e:=(hφ id (by simp[V.has])).1;have:=ae.oe (P:=P) (μ:=μ') (φ:=φ') (id:=id) (i:=i) (off:=off) (g:=g) (by rw[e];exact hg);rw[e]at this;exact this
 | @rL id hg=>exact .rL (by rw[(hφ id (by simp[V.has])).1];exact hg)
 | @os id g hg=>have e:=(hφ id (by simp[V.has])).1;have:=ae.os (P:=P) (μ:=μ') (φ:=φ') (id:=id) (g:=g) (by rw[e];exact hg);rw[e]at this;exact this
 | @qn id hg=>exact .qn (by rw[(hφ id (by simp[V.has])).1];exact hg)
 | @fH id lo len cap g a hg hl ha hc WZ=>have e:=(hφ id (by simp[V.has])).1;exact ae.fH (P:=P) (μ:=μ') (φ:=φ') (id:=id) (lo:=lo) (len:=len) (cap:=cap) (g:=g) (a:=a) (by rw[e];exact hg) (by rw[e];exact hl) (by rw[e];exact ha) hc (by rw[e];exact WZ)
 | @Hq id i off hg=>exact .Hq (by rw[(hφ id (by simp[V.has])).2 (by simp[V.vg])];exact hg)
 | @vp id i off g hg=>have e:=(hφ id (by simp[V.has])).2 (by simp[V.vg]);have:=ae.vp (P:=P) (μ:=μ') (φ:=φ') (id:=id) (i:=i) (off:=off) (g:=g) (by rw[e];exact hg);rw[e]at this;exact this
 | @y7 id i off s j off2 g hg hs=>have e:=(hφ id (by simp[V.has])).2 (by simp[V.vg]);exact .y7 (by rw[e];exact hg) (by rw[e];exact hs)
 | @om id g hg=>exact .om (by rw[(hφ id (by simp[V.has])).1];exact hg)
 | @yl id g hg=>exact .yl (by rw[(hφ id (by simp[V.has])).1];exact hg)
 | @it id g hg=>exact .it (by rw[(hφ id (by simp[V.has])).1];exact hg)
 |fn h1 _ ih=>exact .fn h1 (fun i p x hi hx=>ih i p x hi hx (fun id hid=>⟨(hφ id (by simp only[V.has];exact bI (List.mem_of_getElem? hi) hid)).1,fun h2=>(hφ id (by simp only[V.has];exact bI (List.mem_of_getElem? hi) hid)).2 (by simp only[V.vg];exact wM (List.mem_of_getElem? hi) h2)⟩))
 |agg h1 _ h3 ih=>exact .agg h1 (fun i p x hi hx=>ih i p x hi hx (fun id hid=>⟨(hφ id (by simp only[V.has];exact bI (List.mem_of_getElem? hi) hid)).1,fun h2=>(hφ id (by simp only[V.has];exact bI (List.mem_of_getElem? hi) hid)).2 (by simp only[V.vg];exact wM (List.mem_of_getElem? hi) h2)⟩)) h3
 |bt h1 _ ih=>exact .bt h1 (fun i p x hi hx=>ih i p x hi hx (fun id hid=>⟨(hφ id (by simp only[V.has];exact bI (List.mem_of_getElem? hi) hid)).1,fun h2=>(hφ id (by simp only[V.has];exact bI (List.mem_of_getElem? hi) hid)).2 (by simp only[V.vg];exact wM (List.mem_of_getElem? hi) h2)⟩))
 |top=>exact .top
theorem ae.xr(h:∀b o,μ b=some o→μ' b=some o)(hv:ae P μ φ v x):ae P μ' φ v x:=hv.mono h fun _ _=>rfl
theorem ae.kill(id:Nat)(hv:ae P μ φ v x):ae P μ φ (rS id v) x:=by
 unfold rS;cases v.has id<;>simp
 ·exact hv
 ·exact .top
theorem ae.xt(id:Nat)(hv:ae P μ φ v x):ae P μ φ (nq id v) x:=by
 unfold nq;cases v.vg id<;>simp
 ·exact hv
 ·exact .top
theorem wN{id j:Nat}(h:(nq id v).has j=true):v.has j=true∧(nq id v).vg id=false:=by unfold nq at h⊢;cases hv:v.vg id<;>simp[hv,V.has]at h⊢;exact h
theorem eh.pure{R:BE}{w:World}(h:af P μ p x):eh P μ R w p x:=by
 unfold eh;split
 ·cases h
 ·exact h
theorem eh.PU{R:BE}{w:World}(h:eh P μ R w p x)(hp:p.isRow=false):af P μ p x:=by
 unfold eh at h;split at h
 ·cases hp
 ·exact h
theorem af.CG(h:af P μ p x):p.isRow=false:=by cases h<;>rfl
theorem vB{id j:Nat}(h:(rS id v).has j=true):v.has j=true∧j≠id:=by
 unfold rS at h;cases hv:v.has id<;>simp[hv,V.has]at h
 ·refine⟨h,fun e=>?_⟩;subst e;rw[h]at hv;cases hv
end
end Go.Ab
set_option linter.unusedVariables false
namespace Go.Ab
open Go.RowKit (Below)
section
variable {P:Program} {G:Nat→Option (List PV)} {w0:br} {μ:Ro} {φ:Nat→aA} {f:Fr} {m:Mem} {w:World}
@[simp] theorem ae7(p:PV)(id:Nat):(V.pv p).has id=false:=by simp[V.has]
@[simp] theorem ae4(id:Nat):V.top.has id=false:=by simp[V.has]
@[simp] theorem abA(id:Nat):V.hZ.has id=false:=by simp[V.has]
theorem PW(cs:List PV)(id:Nat):cm id (cs.map .pv)=false:=by
 induction cs with
 |nil=>rfl
 |cons c r ih=>simp[cm,ih]
theorem nX(k:IntKind)(n:Int):(Lit.int k n).wf=true↔k.min≤n∧n≤k.max:=by simp[Lit.wf]
theorem wf_wrap(k:IntKind)(n:Int):(Lit.int k (k.wrap n)).wf=true:=by rw[nX];cases k<;>simp only[IntKind.wrap,IntKind.min,IntKind.max,IntKind.signed,IntKind.bits]<;>simp<;>(try split)<;>omega
theorem af.one{p:PV}{x:Value}(h:af P μ p x)(h1:∀cs,p≠.agg cs)(h2:∀cs,p≠.bt cs)(h3:p≠.bad):x.oneCell'=true:=by cases h<;>first|rfl|exact FU _ _|exact absurd rfl (h1 _)|exact absurd rfl (h2 _)|exact absurd rfl h3
theorem Df(c:Value):ae P μ φ (Ap c) c:=by
 unfold Ap;split
 ·split
  ·exact .pv (.int (by assumption))
  ·exact .top
 ·exact .pv .bool
 ·rename_i s;split
  ·exact .pv (.str (by assumption))
  ·exact .top
 ·exact .pv .pF
 ·exact .hZ
 ·exact .pv .ve
 ·exact .pv .Ao
 ·exact .pv .TK
 ·exact .top
theorem Dg(c:Value)(id:Nat):(Ap c).has id=false:=by unfold Ap;split<;>(try split)<;>simp
theorem FV(c:Value)(id:Nat):(FJ c).has id=false:=by
 unfold FJ;split
 ·rename_i cs;split
  ·simp only[V.has];rw[Bool.eq_false_iff];intro h;obtain⟨v,hv,hh⟩:=cL.1 h;obtain⟨x,_,rfl⟩:=List.mem_map.1 hv;rw[Dg]at hh;cases hh
  ·simp
 ·exact Dg _ _
theorem sW(c:Value):ae P μ φ (FJ c) c:=by
 unfold FJ;split
 ·rename_i cs;split
  ·rename_i hc;refine .agg (by simp) (fun i p x hi hx=>?_) (fun i x hx=>?_)
   ·simp only[List.getElem?_map,Array.getElem?_toList,hx,Option.map_some,Option.some.injEq]at hi;subst hi;exact Df x
   ·rw[List.all_eq_true]at hc;have:=hc x (by rw[←Array.getElem?_toList]at hx;exact List.mem_of_getElem? hx);cases x<;>first|rfl|(simp at this)
  ·exact .top
 ·exact Df _
end
section
variable {R:Type} {E:Env} {w0:br} {μ:Ro} {φ:Nat→aA} {f:Fr} {m:Mem} {a:Act} {w:World}
theorem aj(h:Rel E.P E.aD E.fn.ntmps w0 μ φ f m a w)(x:Operand):ae E.P μ φ (bw E f x) (a.eval x)∧∀id,(bw E f x).has id=true→(m id).isSome=true:=by
 cases x with
 |tmp t=>
  simp only[bw];cases e:Nat.blt t E.fn.ntmps with
  |true=>
   have bm:t<E.fn.ntmps:=by rwa[Nat.blt_eq]at e
   have:=h.fr t;rw[qm bm]at this;exact⟨this,h.live t⟩
  |false=>exact⟨.top,fun id hid=>by cases hid⟩
 |const c=>exact⟨sW c,fun id hid=>by simp only[bw]at hid;rw[FV]at hid;cases hid⟩
 |global g=>
  simp only[bw];cases hg:E.aD g with
  |none=>exact⟨.top,by simp⟩
  |some cs=>exact⟨.pv (h.aD g cs hg).rep,by simp⟩
 |func g=>
  simp only[bw];cases e:Nat.blt g Cg with
  |true=>refine⟨?_,by simp[V.has,cm]⟩;have:=ae.fn (P:=E.P) (μ:=μ) (φ:=φ) (f:=g) (cs:=[]) (xs:= #[]) (by simp) (by simp);rw[qo e]at this;exact this
  |false=>exact⟨.top,by simp⟩
variable{p:PV}
theorem nW{sz j:Nat}{q:PV}(h:(aC sz p)[j]?=some q):j<sz∧q=cell p j:=by
 unfold aC at h;have key:∀(n o j:Nat),(dX p o n)[j]?=some q→j<n∧q=cell p (o+j):=by
  intro n;induction n with
  |zero=>intro o j hj;simp[dX]at hj
  |succ n ih=>
   intro o j hj;cases j with
   |zero=>simp[dX]at hj;exact⟨by omega,by simp[hj]⟩
   |succ j=>simp only[dX,List.getElem?_cons_succ]at hj;obtain⟨h1,h2⟩:=ih (o+1) j hj;exact⟨by omega,by rw[h2];congr 1;omega⟩
 have:=key sz 0 j h;simpa using this
theorem aT(sz:Nat)(p:PV):(aC sz p).length=sz:=by
 unfold aC;have:∀n o,(dX p o n).length=n:=by
  intro n;induction n with
  |zero=>intro o;rfl
  |succ n ih=>intro o;simp[dX,ih]
 exact this _ _
theorem dQ{sz:Nat}(h:p.cells.length=sz):aC sz p=p.cells:=by
 apply List.ext_getElem?;intro j;by_cases hj:j<sz
 ·have h1:j<(aC sz p).length:=by rw[aT];exact hj
  have h2:=nW (List.getElem?_eq_getElem h1);rw[List.getElem?_eq_getElem h1,h2.2,cell,List.getD_eq_getElem?_getD,List.getElem?_eq_getElem (by omega)];rfl
 ·rw[List.getElem?_eq_none (by rw[aT];omega),List.getElem?_eq_none (by omega)]
theorem af.xv{P:Program}{μ:Ro}{n:Nat}{cs:List PV}{x:Value}(h:af P μ (.agg cs) x)(hn:cs.length=n):af P μ (.agg (aC n (.agg cs))) x:=by rw[dQ (p:=.agg cs) (by simpa[PV.cells]using hn)];exact h
variable{t:TypeId}{k:PV→Option R}
theorem lq{r:R}(h:gr E t p k=some r):∃q,(∀(R':Type)(k':PV→Option R'),gr E t p k'=k' q)∧k q=some r∧(∀(P:Program)(μ:Ro)x,af P μ p x→af P μ q x)∧q≠.bad∧(∀cs,q≠.bt cs)∧(ao E.P t=false→∀cs,q≠.agg cs):=by
 unfold gr at h;split at h
 ·rename_i q hu;obtain⟨n,hn,hk⟩:=Option.bind_eq_some_iff.1 h;have hp:p=.int q n:=by cases p<;>simp[asInt]at hn;obtain⟨rfl,rfl⟩:=hn;rfl
  exact⟨.int q n,fun R' k'=>by simp[gr,hu,hn],hk,fun P μ x hx=>hp▸hx,by simp,by simp,by simp⟩
 ·rename_i hu;obtain⟨n,hn,hk⟩:=Option.bind_eq_some_iff.1 h;have hp:p=.bool n:=by cases p<;>simp[asBool]at hn;subst hn;rfl
  exact⟨.bool n,fun R' k'=>by simp[gr,hu,hn],hk,fun P μ x hx=>hp▸hx,by simp,by simp,by simp⟩
 ·rename_i hu;obtain⟨n,hn,hk⟩:=Option.bind_eq_some_iff.1 h;have hp:p=.str n:=by cases p<;>simp[cR]at hn;subst hn;rfl
  exact⟨.str n,fun R' k'=>by simp[gr,hu,hn],hk,fun P μ x hx=>hp▸hx,by simp,by simp,by simp⟩
 ·rename_i e hu;obtain⟨es,hn,hk⟩:=Option.bind_eq_some_iff.1 h;refine⟨.rs (aP E.P e) es,fun R' k'=>by simp[gr,hu,hn],hk,fun P μ x hx=>?_,by simp,by simp,by simp⟩;cases p<;>simp[aa]at hn;split at hn
  ·rename_i hs;simp only[Option.some.injEq]at hn;rw[←hs,←hn];exact hx
  ·split at hn
   ·simp only[Option.some.injEq]at hn;subst hn;cases hx with
    |kE=>exact .kE
    |Fk h=>exact .Fk h
    |rs X h1 h2 _ _ _ _=>exact .Fk h2
   ·cases hn
 ·rename_i fs hu;obtain⟨u,hn,hk⟩:=Option.bind_eq_some_iff.1 h;refine⟨_,fun R' k'=>by simp[gr,hu,hn],hk,fun P μ x hx=>?_,by simp,by simp,by simp[ao,hu]⟩;cases p<;>simp[asAgg]at hn;exact hx.xv hn
 ·rename_i n e hu;obtain⟨u,hn,hk⟩:=Option.bind_eq_some_iff.1 h;refine⟨_,fun R' k'=>by simp[gr,hu,hn],hk,fun P μ x hx=>?_,by simp,by simp,by simp[ao,hu]⟩;cases p<;>simp[asAgg]at hn;exact hx.xv hn
 ·rename_i e hu;split at h
  ·exact⟨.pF,fun R' k'=>by simp[gr,hu],h,fun P μ x hx=>hx,by simp,by simp,by simp⟩
  ·rename_i cs;exact⟨.rp cs,fun R' k'=>by simp[gr,hu],h,fun P μ x hx=>hx,by simp,by simp,by simp⟩
  ·cases h
 ·rename_i kt et hu;unfold dP at h;split at h
  ·exact⟨.ve,fun R' k'=>by simp[gr,hu,dP],h,fun P μ x hx=>hx,by simp,by simp,by simp⟩
  ·rename_i vh ks vs;split at h
   ·rename_i he;subst he;exact⟨.rm _ ks vs,fun R' k'=>by simp[gr,hu,dP],h,fun P μ x hx=>hx,by simp,by simp,by simp⟩
   ·cases h
  ·cases h
 ·rename_i ps rs vr hu;split at h
  ·exact⟨.Ao,fun R' k'=>by simp[gr,hu],h,fun P μ x hx=>hx,by simp,by simp,by simp⟩
  ·rename_i g cs;exact⟨.fn g cs,fun R' k'=>by simp[gr,hu],h,fun P μ x hx=>hx,by simp,by simp,by simp⟩
  ·cases h
 ·rename_i ms hu;obtain⟨n,hn,hk⟩:=Option.bind_eq_some_iff.1 h;have hp:p=.WC n:=by cases p<;>simp[PN]at hn;subst hn;rfl
  exact⟨.WC n,fun R' k'=>by simp[gr,hu,hn],hk,fun P μ x hx=>hp▸hx,by simp,by simp,by simp⟩
 ·cases h
theorem Jl{v:V}{k:V→Option R}{r:R}(h:y9 E t v k=some r):∃u,(∀(R':Type)(k':V→Option R'),y9 E t v k'=k' u)∧k u=some r∧(∀(P:Program)(μ:Ro)(φ:Nat→aA)x,ae P μ φ v x→ae P μ φ u x)∧(∀id,u.has id=true→v.has id=true):=by
 unfold y9 at h;split at h
 ·obtain⟨q,h1,h2,h3,_⟩:=lq h;exact⟨.pv q,fun R' k'=>by simp[y9,h1],h2,fun P μ φ x hx=>by cases hx with|pv hp=>exact .pv (h3 _ _ _ hp),by simp⟩
 ·cases h
 ·rename_i h1 h2;split at h
  ·rename_i hu;refine⟨v,fun R' k'=>?_,h,fun _ _ _ _ hx=>hx,fun _ h=>h⟩;unfold y9;cases v<;>first|(simp only[hu,if_true];done)|exact absurd rfl (h1 _)|exact absurd rfl h2
  ·cases h
theorem vC{r:R}(h:gr E t p k=some r):∃d,E.P.underlying t=some d:=by
 unfold gr at h;cases hq:E.P.underlying t with
 |none=>simp[hq]at h
 |some d=>exact⟨d,rfl⟩
theorem FW{v:V}{k:V→Option R}{r:R}(h:y9 E t v k=some r):∃d,E.P.underlying t=some d:=by
 unfold y9 at h;split at h
 ·exact vC h
 ·cases h
 ·split at h
  ·rename_i hu;exact Option.isSome_iff_exists.1 hu
  ·cases h
end
end Go.Ab
set_option linter.unusedVariables false
namespace Go.Ab
open Go.RowKit (Below)
section
variable {P:Program} {G:Nat→Option (List PV)} {w0:br} {μ:Ro} {φ:Nat→aA} {m:Mem} {w:World}
variable{t:TypeId}{d:TypeDesc}
theorem BG(h:P.underlying t=some d):(P.info? t).map (·.size)=some (aP P t):=by
 unfold Program.underlying at h;cases hi:P.info? t with
 |none=>simp[hi]at h
 |some i=>simp[aP,hi]
theorem Dh(h:ao P t=true):∃d,P.underlying t=some d∧d.isRow=true:=by
 unfold ao at h;split at h
 ·rename_i fs hu;exact⟨_,hu,rfl⟩
 ·rename_i n e hu;exact⟨_,hu,rfl⟩
 ·cases h
theorem AD(hu:P.underlying t=some d):(isAgg t).run P w=.ok (ao P t) w:=by unfold isAgg;simp only[Sem.run_bind,run_underlying hu,Result.andThen_ok,ao,hu];cases d<;>rfl
theorem BH(hu:P.underlying t=some d):(sizeOf t).run P w=.ok (aP P t) w:=by
 have:=BG hu;cases hi:P.info? t with
 |none=>simp[hi]at this
 |some i=>simp[sizeOf,typeInfo,hi,aP]
variable{o:Nat}
theorem ig{b:Nat}{y:Value}(hu:P.underlying t=some d)(ha:ao P t=false)(hc:w.cell? ⟨b,o,none⟩=some y):(Instr.loadAt t (.pointer (some ⟨b,o,none⟩))).run P w=.ok y w:=by simp only[Instr.loadAt,Instr.sureAddr,loadVar,Sem.run_bind,Sem.run_pure,Result.andThen_ok,AD hu,ha];simp[load,Sem.run,hc]
theorem mh{b:Nat}{cs:List Value}(ha:ao P t=true)(hc:w.rangeAt b o cs)(hl:cs.length=aP P t):(Instr.loadAt t (.pointer (some ⟨b,o,none⟩))).run P w=.ok (.agg cs.toArray) w:=by obtain⟨d,hu,hd⟩:=Dh ha;exact run_loadAt_mid w b o t cs d hc hu hd (by rw[BG hu,hl])
theorem av.cellAt(hM:av P G w0 μ φ m w){b o:Nat}{x:Value}(h:cellAt μ b o=some x):w.cell? ⟨b,o,none⟩=some x:=by
 unfold Go.Ab.cellAt at h;split at h
 ·rename_i c t fz hb;simp[World.cell?,hM.ro _ _ hb,h]
 ·cases h
theorem dm{g:Nat}{c:Array Value}{T:TypeId}{fz:Nat×Nat}(h:w.heap[g]?=some (.cells c T fz)):w.cell? ⟨g,o,none⟩=c[o]?:=by simp[World.cell?,h]
theorem dB{T:Type}{l:List T}{n i:Nat}{x:T}(h:(l.take n)[i]?=some x):i<n∧l[i]?=some x:=by
 rw[List.getElem?_take]at h;split at h
 ·exact⟨by assumption,h⟩
 ·cases h
theorem dM{T:Type}{l:List T}{n i:Nat}{x:T}(h:((l.drop o).take n)[i]?=some x):i<n∧l[o+i]?=some x:=by
 rw[List.getElem?_take]at h;split at h
 ·rw[List.getElem?_drop]at h;exact⟨by assumption,h⟩
 ·cases h
theorem af.Z6{cs:List PV}{b n:Nat}{X:Nat→Value}(hM:av P G w0 μ φ m w)(h1:∀(i:Nat)p,cs[i]?=some p→Go.Ab.cellAt μ b (o+i)=some (X i))(h2:∀(i:Nat)p,cs[i]?=some p→af P μ p (X i))(h3:∀i:Nat,i<cs.length→(X i).oneCell'=true)(hn:n≤cs.length):w.rangeAt b o ((List.range n).map X)∧af P μ (.agg (cs.take n)) (.agg ((List.range n).map X).toArray):=by
 have hX:∀i x,((List.range n).map X)[i]?=some x→i<n∧x=X i:=by
  intro i x hx;have hi:i<n:=by have:=(List.getElem?_eq_some_iff.1 hx).1;simpa using this
  rw[List.getElem?_map,List.getElem?_range hi]at hx;simp at hx;exact⟨hi,hx.symm⟩
 refine⟨fun j v hv=>?_,.agg (by simp;omega) (fun i p x hi hx=>?_) (fun i x hx=>?_)⟩
 ·obtain⟨hj,rfl⟩:=hX j v hv;exact hM.cellAt (h1 j _ (List.getElem?_eq_getElem (by omega)))
 ·rw[List.getElem?_toArray]at hx;obtain⟨hj,rfl⟩:=hX i x hx;exact h2 i p (dB hi).2
 ·rw[List.getElem?_toArray]at hx;obtain⟨hj,rfl⟩:=hX i x hx;exact h3 i (by omega)
end
section
variable {R:Type} {E:Env}
def Quiet(v:V)(m:Mem):Prop:=∀id,v.has id=true→(m id).isSome=true
theorem gV{g:V→Option PV}{cs:List V}{ps:List PV}(h:pH g cs=some ps):ps.length=cs.length∧∀(i:Nat)p,ps[i]?=some p→∃v,cs[i]?=some v∧g v=some p:=by
 induction cs generalizing ps with
 |nil=>simp[pH]at h;subst h;simp
 |cons c r ih=>
  simp only[pH]at h;obtain⟨p,hp,h⟩:=Option.bind_eq_some_iff.1 h;obtain⟨ps',nd,h⟩:=Option.bind_eq_some_iff.1 h;simp only[Option.some.injEq]at h;subst h;obtain⟨h1,h2⟩:=ih nd;refine⟨by simp[h1],fun i q hq=>?_⟩;cases i with
  |zero=>simp at hq;subst hq;exact⟨c,by simp,hp⟩
  |succ i=>simp at hq;simpa using h2 i q hq
variable{s off:Nat}{t:TypeId}{e:PV}
theorem FX{k:V→Option R}{r:R}(h:sf E s t e off k=some r):∃v,(∀(R':Type)(k':V→Option R'),sf E s t e off k'=k' v)∧k v=some r∧(∀id,v.has id=false)∧∀(μ:Ro)(φ:Nat→aA)(w:World)(g o:Nat)(c:Array Value)(T:TypeId),w.heap[g]?=some (.cells c T (0,0))→e.cells.length=s→(∀(j:Nat)p x,e.cells[j]?=some p→c[o+j]?=some x→af E.P μ p x)→(∀(i:Nat)(x:Value),i<o+s→c[i]?=some x→x.oneCell'=true)→o+s≤c.size→∃y,(Instr.loadAt t (.pointer (some ⟨g,o+off,none⟩))).run E.P w=.ok y w∧ae E.P μ φ v y:=by
 unfold sf at h;split at h
 ·rename_i ha;split at h
  ·rename_i hb;refine⟨_,fun R' k'=>by simp[sf,ha,hb],h,by simp,fun μ φ w g o c T hg hs hc h1 hl=>?_⟩;have hR:w.rangeAt g (o+off) ((c.toList.drop (o+off)).take (aP E.P t)):=fun j v hv=>by obtain⟨_,hv⟩:=dM hv;rw[dm hg];simpa using hv
   refine⟨_,mh ha hR (by simp;omega),.pv (.agg (by simp[aT];omega) (fun i p x hi hx=>?_) (fun i x hx=>?_))⟩
   ·rw[List.getElem?_toArray]at hx;obtain⟨_,hx⟩:=dM hx;rw[dQ hs]at hi;obtain⟨_,hi⟩:=dM hi;exact hc _ p x hi (by simpa[Nat.add_assoc]using hx)
   ·rw[List.getElem?_toArray]at hx;obtain⟨_,hx⟩:=dM hx;have hx:c[o+off+i]?=some x:=by simpa using hx
    exact h1 _ x (by omega) hx
  ·cases h
 ·rename_i ha;have ha:ao E.P t=false:=by simpa using ha
  split at h
  ·rename_i p hp;obtain⟨q,h1,h2,h3,_⟩:=lq h;obtain⟨d,hu⟩:=vC h;refine⟨.pv q,fun R' k'=>by simp[sf,ha,hp,h1],h2,by simp,fun μ φ w g o c T hg hs hc _ hl=>?_⟩;rw[dQ hs]at hp;have Rt:off<e.cells.length:=(List.getElem?_eq_some_iff.1 hp).1;have hx:c[o+off]?=some c[o+off]:=Array.getElem?_eq_getElem (by omega);exact⟨_,ig hu ha (by rw[dm hg];exact hx),.pv (h3 _ _ _ (hc off p _ hp hx))⟩
  ·cases h
variable{p:PV}
theorem Ru{k:PV→Option R}{r:R}(h:gr E t p k=some r):p.isRow=false∧p≠.bad:=by
 cases p with
 |pG s es=>exfalso;unfold gr at h;split at h<;>simp[asInt,asBool,cR,aa,asAgg,PN,dP]at h
 |bad=>exfalso;unfold gr at h;split at h<;>simp[asInt,asBool,cR,aa,asAgg,PN,dP]at h
 |_=>exact⟨rfl,by simp⟩
theorem FY(h:cell e off=p)(hp:p≠.bad):e.cells[off]?=some p:=by
 unfold cell at h;rw[List.getD_eq_getElem?_getD]at h;cases he:e.cells[off]? with
 |none=>rw[he]at h;simp at h;exact absurd h.symm hp
 |some q=>rw[he]at h;simp at h;rw[h]
theorem Jm{rs:List PV}(h:eT s p=some rs):p=.pG s rs:=by
 unfold eT at h;split at h
 ·split at h
  ·rename_i e;subst e;simp only[Option.some.injEq]at h;subst h;rfl
  ·cases h
 ·cases h
variable{P:Program}{μ:Ro}{φ:Nat→aA}{w:World}{id i:Nat}{et:TypeId}{es:List PV}
theorem aV.cell{sz:Nat}(h:aV P μ φ w id sz et es){g:Nat}(hg:(φ id).g=some g)(he:es[i]?=some e)(hp:e.cells[off]?=some p):∃c T x,w.heap[g]?=some (.cells c T (0,0))∧c[i*sz+off]?=some x∧eh P μ ((φ id).row i off) w p x∧x.oneCell'=true:=by
 obtain⟨a1,a2,a3,a4,a5,a6,a7⟩:=h;rw[hg]at a7;obtain⟨c,T,c1,c2,c3,c4,c5⟩:=a7;have hi:i<es.length:=(List.getElem?_eq_some_iff.1 he).1;have ho:off<sz:=by rw[←a5 i e he];exact(List.getElem?_eq_some_iff.1 hp).1
 have h1:(i+1)*sz≤es.length*sz:=Nat.mul_le_mul_right _ (by omega);have h2:es.length*sz≤(φ id).cap*sz:=Nat.mul_le_mul_right _ c3;rw[Nat.add_mul]at h1;have bm:i*sz+off<c.size:=by omega
 exact⟨c,T,c[i*sz+off],c1,Array.getElem?_eq_getElem bm,c4 i e off p _ he hp (Array.getElem?_eq_getElem bm),c5 (i*sz+off) _ (by omega) (Array.getElem?_eq_getElem bm)⟩
theorem aV.row{sz:Nat}(h:aV P μ φ w id sz et es){rs:List PV}(he:es[i]?=some e)(hr:eT s (Go.Ab.cell e off)=some rs):∃g x,(φ id).g=some g∧w.cell? ⟨g,i*sz+off,none⟩=some x∧eN P μ ((φ id).row i off) w s rs x∧e.cells[off]?=some (.pG s rs):=by
 have hp:=FY (Jm hr) (by simp);cases hg:(φ id).g with
 |none=>obtain⟨a1,a2,a3,a4,a5,a6,a7⟩:=h;rw[hg]at a7;rw[a7.1]at he;simp at he
 |some g=>obtain⟨c,_,x,c1,c2,c3,_⟩:=h.cell hg he hp;exact⟨g,x,rfl,by rw[dm c1];exact c2,c3,hp⟩
theorem ae.Z7{ν:Ro}{x:Value}(h:ae P μ (fun _=>((φ id).row i off).up) (.os 0) x):ae P ν φ (.vp id i off) x:=by
 cases h with
 |rL h=>exact .Hq h
 |os h=>exact .vp h
theorem ae.L6{ν:Ro}{x:Value}(h:ae P μ φ (.vp id i off) x):ae P ν (fun _=>((φ id).row i off).up) (.os 0) x:=by
 cases h with
 |Hq h=>exact .rL h
 |vp h=>exact .os (id:=0) (φ:=fun _=>((φ id).row i off).up) h
theorem FZ{s:Nat}:∀{es:List PV}{k:Nat}{p:PV},(eK s es)[k]?=some p→∃i j e,k=i*s+j∧j<s∧es[i]?=some e∧(aC s e)[j]?=some p
 |[],k,p,h=>by simp[eK]at h
 |e::es,k,p,h=>by
  simp only[eK]at h;rw[List.getElem?_append,aT]at h;split at h
  ·exact⟨0,k,e,by omega,‹_›,rfl,h⟩
  ·obtain⟨i,j,e',h1,h2,h3,h4⟩:=FZ h;exact⟨i+1,j,e',by rw[Nat.add_mul];omega,h2,by simpa using h3,h4⟩
theorem AE{s:Nat}:∀{es:List PV},(eK s es).length=es.length*s
 |[]=>by simp[eK]
 |e::es=>by simp only[eK,List.length_append,aT,AE,List.length_cons,Nat.add_mul];omega
theorem F0(h:xU E t s i off=true):ao E.P t=true∧i=0∧off=0∧∃n e,E.P.underlying t=some (.array n e)∧aP E.P e=s∧ao E.P e=true:=by
 unfold xU at h;split at h
 ·rename_i n e hu;simp only[Bool.and_eq_true]at h;exact⟨by simp[ao,hu],Nat.eq_of_beq_eq_true h.1.2,Nat.eq_of_beq_eq_true h.2,n,e,hu,Nat.eq_of_beq_eq_true h.1.1.1,h.1.1.2⟩
 ·cases h
theorem aF.whole(hA:aF P μ φ w id s et es){g:Nat}(hg:(φ id).g=some g):∃xs:List Value,xs.length=es.length*s∧w.rangeAt g 0 xs∧af P μ (.agg (eK s es)) (.agg xs.toArray):=by
 obtain⟨a1,a2,a3,a4,a5,a6,a7⟩:=hA;rw[hg]at a7;obtain⟨c,T,c1,c2,c3,c4,c5⟩:=a7;have hle:es.length*s≤c.size:=Nat.le_trans (Nat.mul_le_mul_right _ c3) c2;refine⟨c.toList.take (es.length*s),by simp;omega,fun j v hv=>?_,.agg (by rw[AE];simp;omega) (fun k p x hp hx=>?_) (fun k x hx=>?_)⟩
 ·rw[dm c1];have:=List.getElem?_eq_some_iff.1 hv;rw[List.getElem?_take]at hv;split at hv
  ·simpa using hv
  ·cases hv
 ·obtain⟨i,j,e,rfl,hj,he,hp⟩:=FZ hp;rw[dQ (a5 i e he)]at hp;rw[List.getElem?_toArray,List.getElem?_take]at hx;split at hx
  ·exact c4 i e j p x he hp (by simpa using hx)
  ·cases hx
 ·rw[List.getElem?_toArray,List.getElem?_take]at hx;split at hx
  ·exact c5 k x ‹_› (by simpa using hx)
  ·cases hx
theorem Jj{own:Bool}{a:V}{m:Mem}{k:V→bk→Option R}{r:R}(h:pz E own t a m k=some r):∃v ft,(∀m2:Mem,(∀x∈ft,m2 x.2=m x.2)→∀(R':Type)(k':V→bk→Option R'),pz E own t a m2 k'=k' v ft)∧k v ft=some r∧(∀x∈ft,x.1=false)∧∀(G:Nat→Option (List PV))(w0:br)(μ:Ro)(φ:Nat→aA)(w:World)(x:Value),av E.P G w0 μ φ m w→ae E.P μ φ a x→∃y,(Instr.loadAt t x).run E.P w=.ok y w∧ae E.P μ φ v y∧Quiet v m:=by
 unfold pz at h;split at h
 ·rename_i cs;split at h
  ·rename_i ha;split at h
   ·rename_i hn;refine⟨_,_,fun m2 _ R' k'=>by simp[pz,ha,hn],h,by simp,fun G w0 μ φ w x hM hx=>?_⟩;cases hx with
    |pv hp=>cases hp with
     |rp X h1 h2 h3=>obtain⟨hr,hv⟩:=af.Z6 hM h1 h2 h3 hn;exact⟨_,mh ha hr (by simp),.pv hv,by simp[Quiet]⟩
   ·cases h
  ·rename_i ha;have ha:ao E.P t=false:=by simpa using ha
   obtain⟨p,F1,h⟩:=Option.bind_eq_some_iff.1 h;have hp1:cs[0]?=some p:=by rw[←List.head?_eq_getElem?];exact F1
   obtain⟨q,h1,h2,h3,_⟩:=lq h;refine⟨_,_,fun m2 _ R' k'=>by simp[pz,ha,F1,h1],h2,by simp,fun G w0 μ φ w x hM hx=>?_⟩;obtain⟨d,hu⟩:=vC h;cases hx with
   |pv hp=>cases hp with
    |rp X g1 g2 g3=>have hc:=hM.cellAt (g1 0 p hp1);exact⟨_,ig hu ha (by simpa using hc),.pv (h3 _ _ _ (g2 0 p hp1)),by simp[Quiet]⟩
 ·rename_i id off;split at h
  ·rename_i cs hm;split at h
   ·rename_i ha;split at h
    ·rename_i hn;refine⟨_,_,fun m2 cq R' k'=>by simp[pz,ha,hn,cq (false,id) (by simp),hm],h,by simp,fun G w0 μ φ w x hM hx=>?_⟩;cases hx with
     | @op _ _ g hg=>
      obtain⟨g',c,T,bP,hh,hs,hv,h1,xZ⟩:=hM.dy id _ hm;rw[hg]at bP;simp only[Option.some.injEq]at bP;subst bP;have hR:w.rangeAt g off ((c.toList.drop off).take (aP E.P t)):=fun j v hv=>by obtain⟨_,hv⟩:=dM hv;rw[dm hh];simpa using hv
      refine⟨_,mh ha hR (by simp;omega),.agg (by simp;omega) (fun i p x hi hx=>?_) (fun i x hx=>?_),?_⟩
      ·rw[List.getElem?_toArray]at hx;obtain⟨_,hx⟩:=dM hx;obtain⟨_,hi⟩:=dM hi;exact hv _ p x hi (by simpa using hx)
      ·rw[List.getElem?_toArray]at hx;obtain⟨_,hx⟩:=dM hx;exact h1 _ x (by simpa using hx)
      ·intro pI hid;simp only[V.has]at hid;obtain⟨v,hv,hh⟩:=cL.1 hid;exact hM.fJ id cs pI hm (bI (List.mem_of_mem_drop (List.mem_of_mem_take hv)) hh)
    ·cases h
   ·rename_i ha;have ha:ao E.P t=false:=by simpa using ha
    split at h
    ·rename_i ps nd;obtain⟨p,F1,h⟩:=Option.bind_eq_some_iff.1 h;obtain⟨q,h1,h2,h3,_⟩:=lq h;refine⟨_,_,fun m2 cq R' k'=>by simp[pz,ha,cq (false,id) (by simp),hm,nd,F1,h1],h2,by simp,fun G w0 μ φ w x hM hx=>?_⟩;cases hx with
     | @op _ _ g hg=>
      obtain⟨g',c,T,bP,hh,hs,hvv,_⟩:=hM.dy id _ hm;rw[hg]at bP;simp only[Option.some.injEq]at bP;subst bP;obtain⟨f1,f2⟩:=gV nd;obtain⟨bm,hp1⟩:=List.getElem?_eq_some_iff.1 F1;have Rt:off<cs.length:=by omega
      obtain⟨v,hv,nf⟩:=f2 off p F1;have hvp:v=.pv p:=by cases v<;>simp[pvO]at nf;subst nf;rfl
      subst hvp;have hx:c[off]?=some c[off]:=Array.getElem?_eq_getElem (by omega);obtain⟨d,hu⟩:=vC h;have hr:=hvv off _ _ hv hx;cases hr with
      |pv hr=>exact⟨_,ig hu ha (by rw[dm hh];exact hx),.pv (h3 _ _ _ hr),by simp[Quiet]⟩
    ·rename_i WD;split at h
     ·rename_i v hv;obtain⟨u,h1,h2,h3,h4⟩:=Jl h;refine⟨_,_,fun m2 cq R' k'=>by simp[pz,ha,cq (false,id) (by simp),hm,WD,hv,h1],h2,by simp,fun G w0 μ φ w x hM hx=>?_⟩;cases hx with
      | @op _ _ g hg=>obtain⟨g',c,T,bP,hh,hs,hvv,_⟩:=hM.dy id _ hm;rw[hg]at bP;simp only[Option.some.injEq]at bP;subst bP;have Rt:off<cs.length:=(List.getElem?_eq_some_iff.1 hv).1;have hx:c[off]?=some c[off]:=Array.getElem?_eq_getElem (by omega);obtain⟨d,hu⟩:=FW h;refine⟨_,ig hu ha (by rw[dm hh];exact hx),h3 _ _ _ _ (hvv off v _ hv hx),fun pI hid=>?_⟩;exact hM.fJ id cs pI hm (bI (List.mem_of_getElem? hv) (h4 pI hid))
     ·cases h
  ·cases h
 ·rename_i id i off;have key:∀(sz:Nat)(et:TypeId)(es:List PV),(m id=some (.arr sz et es)∨m id=some (.pR sz et es))→((es[i]?).bind fun e=>sf E sz t e off fun v=>k v [(false,id)])=some r→∃v,(∀(R':Type)(k':V→bk→Option R'),((es[i]?).bind fun e=>sf E sz t e off fun v=>k' v [(false,id)])=k' v [(false,id)])∧k v [(false,id)]=some r∧∀(G:Nat→Option (List PV))(w0:br)(μ:Ro)(φ:Nat→aA)(w:World)(x:Value),av E.P G w0 μ φ m w→ae E.P μ φ (.oe id i off) x→∃y,(Instr.loadAt t x).run E.P w=.ok y w∧ae E.P μ φ v y∧Quiet v m:=by
   intro sz et es hm hb;obtain⟨e,he,hb⟩:=Option.bind_eq_some_iff.1 hb;obtain⟨v,h1,h2,h3,h4⟩:=FX hb;refine⟨v,fun R' k'=>by simp[he,h1],h2,fun G w0 μ φ w x hM hx=>?_⟩;have hA:aF E.P μ φ w id sz et es:=by
    rcases hm with hm|hm
    ·exact hM.dy id _ hm
    ·exact(hM.dy id _ hm).1
   cases hx with
   | @oe _ _ _ g hg=>
    obtain⟨a1,a2,a3,a4,a5,a6,a7⟩:=hA;rw[hg]at a7;obtain⟨c,T,c1,c2,c3,c4,c5⟩:=a7;have hi:i<es.length:=(List.getElem?_eq_some_iff.1 he).1;obtain⟨y,hy,hv⟩:=h4 μ φ w g (i*sz) c T c1 (a5 i e he) (fun j p x hj hx=>c4 i e j p x he hj hx) (fun i' x ny hx=>c5 i' x (by
     have:(i+1)*sz≤es.length*sz:=Nat.mul_le_mul_right _ (by omega);rw[Nat.add_mul]at this;omega) hx) (by
     have:(i+1)*sz≤(φ id).cap*sz:=Nat.mul_le_mul_right _ (by omega);rw[Nat.add_mul]at this;omega)
    rw[a2];exact⟨y,hy,hv,fun id hid=>by rw[h3]at hid;cases hid⟩
  split at h
  ·rename_i sz et es hm;cases hw:xU E t sz i off with
   |true=>
    rw[hw]at h;simp only[cond_true]at h;split at h
    ·rename_i hl;obtain⟨ha,rfl,rfl,_⟩:=F0 hw;refine⟨_,_,fun m2 cq R' k'=>by have:=cq (false,id) (by simp);simp only at this;simp only[pz,this,hm,hw,cond_true];rw[if_pos hl],h,by simp,fun G w0 μ φ w x hM hx=>?_⟩;have hA:aF E.P μ φ w id sz et es:=hM.dy id _ hm;cases hx with
     | @oe _ _ _ g hg=>obtain⟨xs,x1,x2,x3⟩:=hA.whole hg;rw[Nat.zero_mul];exact⟨_,mh ha x2 (by omega),.pv x3,by simp[Quiet]⟩
    ·cases h
   |false=>rw[hw]at h;obtain⟨v,h1,h2,h3⟩:=key sz et es (.inl hm) h;exact⟨v,_,fun m2 cq R' k'=>by have:=cq (false,id) (by simp);simp only at this;simp only[pz,this,hm,hw,cond_false];exact h1 R' k',h2,by simp,h3⟩
  ·rename_i sz et es hm;obtain⟨v,h1,h2,h3⟩:=key sz et es (.inr hm) h;exact⟨v,_,fun m2 cq R' k'=>by have:=cq (false,id) (by simp);simp only at this;simp only[pz,this,hm];exact h1 R' k',h2,by simp,h3⟩
  ·rename_i sz et es hm;split at h
   ·cases h
   ·rename_i ha;obtain⟨e,he,h⟩:=Option.bind_eq_some_iff.1 h;have YU:ao E.P t=false:=by simpa using ha
    split at h
    ·rename_i ho;split at h
     ·rename_i C4 hu;obtain⟨rs,hr,h⟩:=Option.bind_eq_some_iff.1 h;refine⟨_,_,fun m2 cq R' k'=>by have:=cq (false,id) (by simp);simp only at this;simp only[pz,this,hm,if_neg ha,he,ho,hu,hr,Option.bind_some,if_true],h,by simp,fun G w0 μ φ w x hM hx=>?_⟩;have hN:aV E.P μ φ w id sz et es:=hM.dy id _ hm;obtain⟨g,y,hg,hc,jT,_⟩:=hN.row he hr;cases hx with
      |oe bP=>rw[hg]at bP;simp only[Option.some.injEq]at bP;subst bP;rw[hN.2.1];refine⟨y,ig hu YU hc,.Z7 jT.2,fun j hj=>?_⟩;have:=Nat.eq_of_beq_eq_true hj;subst this;rw[hm];rfl
     ·cases h
    ·rename_i ho;obtain⟨q,h1,h2,h3,_⟩:=lq h;obtain⟨hq1,hq2⟩:=Ru h;obtain⟨d,hu⟩:=vC h;refine⟨_,_,fun m2 cq R' k'=>by have:=cq (false,id) (by simp);simp only at this;simp only[pz,this,hm,if_neg ha,he,ho,Option.bind_some,if_false,Bool.false_eq_true];exact h1 _ _,h2,by simp,fun G w0 μ φ w x hM hx=>?_⟩;have hN:aV E.P μ φ w id sz et es:=hM.dy id _ hm;cases hx with
     |oe hg=>obtain⟨c,_,y,c1,c2,c3,_⟩:=hN.cell hg he (FY rfl hq2);rw[hN.2.1];exact⟨y,ig hu YU (by rw[dm c1];exact c2),.pv (h3 _ _ _ (c3.PU hq1)),by simp[Quiet]⟩
  ·cases h
 ·rename_i id i off s j off2;split at h
  ·rename_i sz et es hm;obtain⟨e,he,h⟩:=Option.bind_eq_some_iff.1 h;obtain⟨rs,hr,h⟩:=Option.bind_eq_some_iff.1 h;obtain⟨q,hq,h⟩:=Option.bind_eq_some_iff.1 h;obtain⟨v,h1,h2,h3,h4⟩:=FX h;refine⟨v,_,fun m2 cq R' k'=>by have:=cq (false,id) (by simp);simp only at this;simp only[pz,this,hm,he,hr,hq,Option.bind_some];exact h1 R' _,h2,by simp,fun G w0 μ φ w x hM hx=>?_⟩;have hN:aV E.P μ φ w id sz et es:=hM.dy id _ hm;obtain⟨g,y,hg,hc,⟨⟨C4,hA⟩,hV⟩,_⟩:=hN.row he hr;cases hx with
   | @y7 _ _ _ _ _ _ g' bP hs=>obtain⟨a1,a2,a3,a4,a5,a6,a7⟩:=hA;have hgu:((φ id).row i off).up.g=some g':=bP;rw[hgu]at a7;obtain⟨c,T,c1,c2,c3,c4,c5⟩:=a7;have hj:j<rs.length:=(List.getElem?_eq_some_iff.1 hq).1;have e1:(j+1)*s≤rs.length*s:=Nat.mul_le_mul_right _ (by omega);have e2:rs.length*s≤((φ id).row i off).up.cap*s:=Nat.mul_le_mul_right _ c3;have e3:((φ id).row i off).up.cap*s≤c.size:=c2;rw[Nat.add_mul]at e1;obtain⟨y,hy,hv⟩:=h4 μ φ w g' (j*s) c T c1 (a5 j q hq) (fun l p x hl hx=>c4 j q l p x hq hl hx) (fun i' x ny hx=>c5 i' x (by omega) hx) (by omega);exact⟨y,hy,hv,fun id hid=>by rw[h3]at hid;cases hid⟩
  ·cases h
 ·cases h
end
end Go.Ab
set_option linter.unusedVariables false
namespace Go.Ab
open Go.RowKit (Below)
section
variable {R:Type} {E:Env}
variable{s t:TypeId}{j o:Nat}
theorem BI(h:za E s j=some (o,t)):∃fs f,E.P.underlying s=some (.struct fs)∧fs[j]?=some f∧f.offset=o∧f.type=t∧aP E.P t≠0:=by
 unfold za at h;split at h
 ·rename_i fs hu;split at h
  ·rename_i f hf;split at h
   ·cases h
   ·rename_i hz;simp only[Option.some.injEq,Prod.mk.injEq]at h;obtain⟨rfl,rfl⟩:=h;exact⟨fs,f,hu,hf,rfl,rfl,hz⟩
  ·cases h
 ·cases h
variable{P:Program}
theorem wO(h:aP P t≠0):∃i,P.info? t=some i∧i.size=aP P t:=by
 unfold aP at*;cases hi:P.info? t with
 |none=>simp[hi]at h
 |some i=>exact⟨i,rfl,by simp⟩
variable{w:World}
theorem jq(h:aP P t≠0):(sizeOf t).run P w=.ok (aP P t) w:=by obtain⟨i,hi,hs⟩:=wO h;simp[sizeOf,typeInfo,hi,hs]
theorem rU{fs:Array Field}{f:Field}{b:Nat}(hu:P.underlying s=some (.struct fs))(hf:fs[j]?=some f)(hz:aP P f.type≠0):(Instr.fieldAt s (.pointer (some ⟨b,o,none⟩)) j).run P w=.ok (.pointer (some ⟨b,o+f.offset,none⟩)) w:=by simp[Instr.fieldAt,run_underlying hu,hf,Instr.sureAddr,fieldPlace,jq hz,hz,Addr.add_mid]
theorem mi{T:Type}{l:List T}{i:Nat}{x:T}(h:(l.drop o)[i]?=some x):l[o+i]?=some x:=by rw[List.getElem?_drop]at h;exact h
theorem af.Hr{μ:Ro}{cs:List PV}{b:Nat}(n:Nat)(h:af P μ (.rp cs) (.pointer (some ⟨b,o,none⟩))):af P μ (.rp (cs.drop n)) (.pointer (some ⟨b,o+n,none⟩)):=by
 cases h with
 |rp X h1 h2 h3=>
  refine .rp (fun i=>X (n+i)) (fun i p hi=>?_) (fun i p hi=>h2 _ p (mi hi)) (fun i hi=>h3 _ ?_)
  ·have:=h1 _ p (mi hi);rw[Nat.add_assoc];exact this
  ·simp at hi;omega
variable{x:V}{k:V→Option R}{r:R}
theorem Fl(h:jR E s x j k=some r):∃v,(∀(R':Type)(k':V→Option R'),jR E s x j k'=k' v)∧k v=some r∧(∀id,v.has id=x.has id)∧∀(μ:Ro)(φ:Nat→aA)(w:World)(y:Value),ae E.P μ φ x y→∃z,(Instr.fieldAt s y j).run E.P w=.ok z w∧ae E.P μ φ v z:=by
 unfold jR at h;split at h
 ·rename_i o t ho;obtain⟨fs,f,hu,hf,rfl,rfl,hz⟩:=BI ho;split at h
  ·rename_i cs;refine⟨_,fun R' k'=>by simp[jR,ho],h,by simp,fun μ φ w y hy=>?_⟩;cases hy with
   |pv hp=>cases hp with
    |rp X h1 h2 h3=>exact⟨_,rU hu hf hz,.pv (af.Hr _ (.rp X h1 h2 h3))⟩
  ·rename_i id off;refine⟨_,fun R' k'=>by simp[jR,ho],h,by simp[V.has],fun μ φ w y hy=>?_⟩;cases hy with
   |op hg=>exact⟨_,rU hu hf hz,.op hg⟩
  ·rename_i id i off;refine⟨_,fun R' k'=>by simp[jR,ho],h,by simp[V.has],fun μ φ w y hy=>?_⟩;cases hy with
   |oe hg=>exact⟨_,rU hu hf hz,by rw[Nat.add_assoc];exact .oe hg⟩
  ·refine⟨_,fun R' k'=>by simp[jR,ho],h,by simp[V.has],fun μ φ w y hy=>?_⟩;cases hy with
   |y7 hg hs=>exact⟨_,rU hu hf hz,by rw[Nat.add_assoc];exact .y7 hg hs⟩
  ·cases h
 ·cases h
theorem ij{e:TypeId}{q:IntKind}{i:Int}{ad:Addr}{len cap:Nat}(hu:P.underlying t=some (.slice e))(hz:aP P e≠0)(h0:0≤i)(h1:i<(len:Int)):(Instr.indexAt t (.slice (some ad) len cap) (.int q i)).run P w=.ok (.pointer (some (ad.add (i.toNat*aP P e)))) w:=by simp[Instr.indexAt,asIntOf,run_underlying hu,h0,h1,jq hz]
theorem lr{e:TypeId}{n:Nat}{q:IntKind}{i:Int}{ad:Addr}(hu:P.underlying t=some (.array n e))(hz:aP P e≠0)(h0:0≤i)(h1:i<(n:Int)):(Instr.indexAt t (.pointer (some ad)) (.int q i)).run P w=.ok (.pointer (some (ad.add (i.toNat*aP P e)))) w:=by simp[Instr.indexAt,asIntOf,run_underlying hu,h0,h1,jq hz,Instr.sureAddr]
theorem W3{es:List PV}{i:Int}{p:PV}(h:aO es i=some p):0≤i∧es[i.toNat]?=some p∧i<(es.length:Int):=by
 unfold aO at h;split at h
 ·rename_i h0;have:=(List.getElem?_eq_some_iff.1 h).1;exact⟨h0,h,by omega⟩
 ·cases h
theorem af.PX{μ:Ro}{sz:Nat}{es:List PV}{x:Value}{n:Nat}{p:PV}(h:af P μ (.rs sz es) x)(hp:es[n]?=some p):∃b o cap,x=.slice (some ⟨b,o,none⟩) es.length cap∧af P μ (.rp (aC sz p)) (.pointer (some ⟨b,o+n*sz,none⟩)):=by
 cases h with
 |kE=>simp at hp
 |Fk _=>simp at hp
 | @rs _ _ b o cap X h1 h2 h3 h4 h5 h6=>refine⟨b,o,cap,rfl,?_⟩;rw[dQ (h3 n p hp)];exact .rp (X n) (fun i q hi=>h4 n p i q hp hi) (fun i q hi=>h5 n p i q hp hi) (fun i hi=>h6 n p i _ hp (List.getElem?_eq_getElem hi))
theorem Fm{ix:V}{m:Mem}{k:V→bk→Option R}(h:c8 E t x ix m k=some r):∃v ft,(∀m2:Mem,(∀x∈ft,m2 x.2=m x.2)→∀(R':Type)(k':V→bk→Option R'),c8 E t x ix m2 k'=k' v ft)∧k v ft=some r∧(∀x∈ft,x.1=false)∧(∀id,v.has id=true→x.has id=true)∧∀(G:Nat→Option (List PV))(w0:br)(μ:Ro)(φ:Nat→aA)(w:World)(y z:Value),av E.P G w0 μ φ m w→ae E.P μ φ x y→ae E.P μ φ ix z→∃u,(Instr.indexAt t y z).run E.P w=.ok u w∧ae E.P μ φ v u:=by
 unfold c8 at h;split at h
 ·rename_i q i;split at h
  ·rename_i e s es hu;split at h
   ·rename_i hs;obtain⟨p,hp,hk⟩:=Option.bind_eq_some_iff.1 h;refine⟨_,_,fun m2 _ R' k'=>by simp only[c8,hu];rw[if_pos hs,hp];rfl,hk,by simp,by simp,fun G w0 μ φ w y z hM hy hz=>?_⟩;obtain⟨h0,hp,hl⟩:=W3 hp;cases hz with
    |pv hz=>cases hz with
     |int zi=>
      cases hy with
      |pv hy=>obtain⟨b,o,cap,rfl,hr⟩:=hy.PX hp;refine⟨_,ij hu (by omega) h0 hl,?_⟩;rw[Addr.add_mid,←hs.1];exact .pv hr
   ·cases h
  ·rename_i e id hu;have key:∀(s:Nat)(et:TypeId)(es:List PV),(m id=some (.arr s et es)∨m id=some (.pR s et es))→s=aP E.P e∧0<s→ah i es.length→∀(G:Nat→Option (List PV))(w0:br)(μ:Ro)(φ:Nat→aA)(w:World)(y z:Value),av E.P G w0 μ φ m w→ae E.P μ φ (.os id) y→ae E.P μ φ (.pv (.int q i)) z→∃u,(Instr.indexAt t y z).run E.P w=.ok u w∧ae E.P μ φ (.oe id i.toNat 0) u:=by
    intro s et es hm hs hr G w0 μ φ w y z hM hy hz;have hA:aF E.P μ φ w id s et es:=by
     rcases hm with hm|hm
     ·exact hM.dy id _ hm
     ·exact(hM.dy id _ hm).1
    obtain⟨a1,a2,a3,a4,a5,a6,a7⟩:=hA;cases hz with
    |pv hz=>cases hz with
     |int zi=>
      cases hy with
      |rL hg=>rw[hg]at a7;rw[a7.1]at hr;simp[ah]at hr;omega
      | @os _ g hg=>refine⟨_,ij hu (by omega) hr.1 (by rw[a1];exact hr.2),?_⟩;rw[Addr.add_mid];have:=ae.oe (P:=E.P) (μ:=μ) (φ:=φ) (id:=id) (i:=i.toNat) (off:=0) hg;rw[a2,hs.1]at this;simpa using this
   split at h
   ·rename_i s et es hm;split at h
    ·rename_i hs;split at h
     ·rename_i hr;exact⟨_,_,fun m2 cq R' k'=>by have:=cq (false,id) (by simp);simp only at this;simp only[c8,hu,this,hm];rw[if_pos hs,if_pos hr],h,by simp,by simp[V.has],key s et es (.inl hm) hs hr⟩
     ·cases h
    ·cases h
   ·rename_i s et es hm;split at h
    ·rename_i hs;split at h
     ·rename_i hr;exact⟨_,_,fun m2 cq R' k'=>by have:=cq (false,id) (by simp);simp only at this;simp only[c8,hu,this,hm];rw[if_pos hs,if_pos hr],h,by simp,by simp[V.has],key s et es (.inr hm) hs hr⟩
     ·cases h
    ·cases h
   ·rename_i s et es hm;split at h
    ·rename_i hs;split at h
     ·rename_i hr;refine⟨_,_,fun m2 cq R' k'=>by have:=cq (false,id) (by simp);simp only at this;simp only[c8,hu,this,hm];rw[if_pos hs,if_pos hr],h,by simp,by simp[V.has],fun G w0 μ φ w y z hM hy hz=>?_⟩;have hA:aV E.P μ φ w id s et es:=hM.dy id _ hm;obtain⟨a1,a2,a3,a4,a5,a6,a7⟩:=hA;cases hz with
      |pv hz=>cases hz with
       |int zi=>
        cases hy with
        |rL hg=>rw[hg]at a7;rw[a7.1]at hr;simp[ah]at hr;omega
        | @os _ g hg=>refine⟨_,ij hu (by omega) hr.1 (by rw[a1];exact hr.2),?_⟩;rw[Addr.add_mid];have:=ae.oe (P:=E.P) (μ:=μ) (φ:=φ) (id:=id) (i:=i.toNat) (off:=0) hg;rw[a2,hs.1]at this;simpa using this
     ·cases h
    ·cases h
   ·rename_i cs hm;split at h
    ·rename_i hs;refine⟨_,_,fun m2 cq R' k'=>by have:=cq (false,id) (by simp);simp only at this;simp only[c8,hu,this,hm];rw[if_pos hs],h,by simp,by simp[V.has],fun G w0 μ φ w y z hM hy hz=>?_⟩;obtain⟨g,c,T,hg,hh,l0,hv,sX,xZ⟩:=hM.dy id _ hm;cases hz with
     |pv hz=>cases hz with
      |int zi=>
       cases hy with
       |rL bP=>rw[hg]at bP;cases bP
       | @os _ g' bP=>refine⟨_,ij hu (by omega) hs.2.1 (by rw[xZ];exact hs.2.2),?_⟩;rw[Addr.add_mid,hs.1];have:=ae.op (P:=E.P) (μ:=μ) (φ:=φ) (id:=id) (off:=i.toNat) bP;simpa using this
    ·cases h
   ·cases h
  ·rename_i e id i0 off hu;split at h
   ·rename_i s0 et0 es hm;split at h
    ·rename_i ec;obtain⟨e0,he,h⟩:=Option.bind_eq_some_iff.1 h;obtain⟨rs,Cj,h⟩:=Option.bind_eq_some_iff.1 h;split at h
     ·rename_i hr;refine⟨_,_,fun m2 cq R' k'=>by have:=cq (false,id) (by simp);simp only at this;simp only[c8,hu,this,hm];rw[if_pos ec,he];simp only[Option.bind_some,Cj];rw[if_pos hr],h,by simp,by simp[V.has],fun G w0 μ φ w y z hM hy hz=>?_⟩;have hN:aV E.P μ φ w id s0 et0 es:=hM.dy id _ hm;obtain⟨_,_,_,_,⟨⟨C4,hA⟩,_⟩,_⟩:=hN.row he Cj;obtain⟨a1,a2,a3,a4,a5,a6,a7⟩:=hA;cases hz with
      |pv hz=>cases hz with
       |int zi=>
        cases hy with
        |Hq hg=>have bP:((φ id).row i0 off).up.g=none:=hg;simp only[bP]at a7;rw[a7.1]at hr;simp[ah]at hr;omega
        | @vp _ _ _ g hg=>have a1':((φ id).row i0 off).len=rs.length:=a1;refine⟨_,ij hu (by omega) hr.1 (by rw[a1'];exact hr.2),?_⟩;rw[Addr.add_mid];have:=ae.y7 (P:=E.P) (μ:=μ) (φ:=φ) (id:=id) (i:=i0) (off:=off) (s:=aP E.P e) (j:=i.toNat) (off2:=0) hg a2;simpa using this
     ·cases h
    ·cases h
   ·cases h
  ·rename_i e id lo len hu;have key:∀(s:Nat)(et:TypeId)(es:List PV),(m id=some (.arr s et es)∨m id=some (.pR s et es))→s=aP E.P e∧0<s→ah i len→∀(G:Nat→Option (List PV))(w0:br)(μ:Ro)(φ:Nat→aA)(w:World)(y z:Value),av E.P G w0 μ φ m w→ae E.P μ φ (.fH id lo len) y→ae E.P μ φ (.pv (.int q i)) z→∃u,(Instr.indexAt t y z).run E.P w=.ok u w∧ae E.P μ φ (.oe id (lo+i.toNat) 0) u:=by
    intro s et es hm hs hr G w0 μ φ w y z hM hy hz;have hA:aF E.P μ φ w id s et es:=by
     rcases hm with hm|hm
     ·exact hM.dy id _ hm
     ·exact(hM.dy id _ hm).1
    obtain⟨a1,a2,a3,a4,a5,a6,a7⟩:=hA;cases hz with
    |pv hz=>cases hz with
     |int zi=>
      cases hy with
      |qn hg=>simp[ah]at hr;omega
      | @fH _ _ _ Ck g ad hg hl ha YV Rv=>
       have ha:=ha.resolve_right fun hh=>by have:=hr.1;have:=hr.2;omega
       subst ha;refine⟨_,ij hu (by omega) hr.1 hr.2,?_⟩;rw[Addr.add_mid];have:=ae.oe (P:=E.P) (μ:=μ) (φ:=φ) (id:=id) (i:=lo+i.toNat) (off:=0) hg;rw[a2,hs.1]at this;rw[a2,hs.1];simpa[Nat.add_mul]using this
   split at h
   ·rename_i s et es hm;split at h
    ·rename_i hs;split at h
     ·rename_i hr;exact⟨_,_,fun m2 cq R' k'=>by have:=cq (false,id) (by simp);simp only at this;simp only[c8,hu,this,hm];rw[if_pos hs,if_pos hr],h,by simp,by simp[V.has],key s et es (.inl hm) hs hr⟩
     ·cases h
    ·cases h
   ·rename_i s et es hm;split at h
    ·rename_i hs;split at h
     ·rename_i hr;exact⟨_,_,fun m2 cq R' k'=>by have:=cq (false,id) (by simp);simp only at this;simp only[c8,hu,this,hm];rw[if_pos hs,if_pos hr],h,by simp,by simp[V.has],key s et es (.inr hm) hs hr⟩
     ·cases h
    ·cases h
   ·cases h
  ·rename_i n e id off hu;split at h
   ·rename_i hr;refine⟨_,_,fun m2 _ R' k'=>by simp only[c8,hu];rw[if_pos hr],h,by simp,by simp[V.has],fun G w0 μ φ w y z hM hy hz=>?_⟩;cases hz with
    |pv hz=>cases hz with
     |int zi=>
      cases hy with
      |op hg=>exact⟨_,lr hu (by omega) hr.1.1 hr.1.2,by rw[Addr.add_mid];exact .op hg⟩
   ·cases h
  ·rename_i n e cs hu;split at h
   ·rename_i hr;refine⟨_,_,fun m2 _ R' k'=>by simp only[c8,hu];rw[if_pos hr],h,by simp,by simp,fun G w0 μ φ w y z hM hy hz=>?_⟩;cases hz with
    |pv hz=>cases hz with
     |int zi=>
      cases hy with
      |pv hy=>cases hy with
       |rp X h1 h2 h3=>exact⟨_,lr hu (by omega) hr.1.1 hr.1.2,by rw[Addr.add_mid];exact .pv (af.Hr _ (.rp X h1 h2 h3))⟩
   ·cases h
  ·rename_i n e id j off hu;split at h
   ·rename_i hr;split at h
    ·rename_i hb;refine⟨_,_,fun m2 cq R' k'=>by have:=cq (false,id) (by simp);simp only at this;simp only[c8,hu,this];rw[if_pos hr,hb],h,by simp,by simp[V.has],fun G w0 μ φ w y z hM hy hz=>?_⟩;have l0:(φ id).sz=aP E.P e:=by
      split at hb
      ·rename_i s et es hm;rw[Nat.eq_of_beq_eq_true hb];have hA:aF E.P μ φ w id s et es:=hM.dy id _ hm;exact hA.2.1
      ·cases hb
     cases hz with
     |pv hz=>cases hz with
      |int zi=>
       cases hy with
       |oe hg=>refine⟨_,lr hu (by omega) hr.1.1 hr.1.2,?_⟩;have:=ae.oe (P:=E.P) (μ:=μ) (φ:=φ) (id:=id) (i:=i.toNat+j) (off:=off) hg;rw[Addr.add_mid,show j*(φ id).sz+off+i.toNat*aP E.P e=(i.toNat+j)*(φ id).sz+off by rw[l0,Nat.add_mul];omega];exact this
    ·rename_i hb;refine⟨_,_,fun m2 cq R' k'=>by have:=cq (false,id) (by simp);simp only at this;simp only[c8,hu,this];rw[if_pos hr,hb],h,by simp,by simp[V.has],fun G w0 μ φ w y z hM hy hz=>?_⟩;cases hz with
     |pv hz=>cases hz with
      |int zi=>
       cases hy with
       |oe hg=>exact⟨_,lr hu (by omega) hr.1.1 hr.1.2,by rw[Addr.add_mid,Nat.add_assoc];exact .oe hg⟩
   ·cases h
  ·cases h
 ·cases h
theorem oq{cs:List V}(h:qi x=some cs):(∀id,cm id cs=true→x.has id=true)∧∀(P:Program)(μ:Ro)(φ:Nat→aA)y,ae P μ φ x y→∃xs:Array Value,y=.agg xs∧cs.length=xs.size∧(∀(i:Nat)p x,cs[i]?=some p→xs[i]?=some x→ae P μ φ p x)∧(∀(i:Nat)(x:Value),xs[i]?=some x→x.oneCell'=true):=by
 unfold qi at h;split at h
 ·simp only[Option.some.injEq]at h;subst h;refine⟨fun id hid=>(by rw[PW]at hid;cases hid),fun P μ φ y hy=>?_⟩;cases hy with
  |pv hy=>cases hy with
   |agg h1 h2 h3=>refine⟨_,rfl,by simpa using h1,fun i p x hi hx=>?_,h3⟩;simp only[List.getElem?_map,Option.map_eq_some_iff]at hi;obtain⟨q,hq,rfl⟩:=hi;exact .pv (h2 i q x hq hx)
 ·simp only[Option.some.injEq]at h;subst h;refine⟨fun id hid=>by simpa[V.has]using hid,fun P μ φ y hy=>?_⟩;cases hy with
  |agg h1 h2 h3=>exact⟨_,rfl,h1,h2,h3⟩
 ·cases h
variable{xs:Array Value}{off:Nat}
theorem zj(ha:ao P t=true):(part t xs off).run P w=.ok (.agg (xs.extract off (off+aP P t))) w:=by obtain⟨d,hu,_⟩:=Dh ha;simp[part,AD hu,ha,BH hu]
theorem zk{d:TypeDesc}{y:Value}(hu:P.underlying t=some d)(ha:ao P t=false)(hy:xs[off]?=some y):(part t xs off).run P w=.ok y w:=by simp[part,AD hu,ha,hy]
theorem Jn{cs:List V}(h:C1 E t cs off k=some r):∃v,(∀(R':Type)(k':V→Option R'),C1 E t cs off k'=k' v)∧k v=some r∧(∀id,v.has id=true→cm id cs=true)∧∀(μ:Ro)(φ:Nat→aA)(w:World)(xs:Array Value),cs.length=xs.size→(∀(i:Nat)p x,cs[i]?=some p→xs[i]?=some x→ae E.P μ φ p x)→(∀(i:Nat)(x:Value),xs[i]?=some x→x.oneCell'=true)→∃z,(part t xs off).run E.P w=.ok z w∧ae E.P μ φ v z:=by
 unfold C1 at h;split at h
 ·rename_i ha;split at h
  ·rename_i hn;refine⟨_,fun R' k'=>by simp[C1,ha,hn],h,fun id hid=>?_,fun μ φ w xs h1 h2 h3=>⟨_,zj ha,?_⟩⟩
   ·simp only[V.has]at hid;obtain⟨v,hv,hh⟩:=cL.1 hid;exact bI (List.mem_of_mem_drop (List.mem_of_mem_take hv)) hh
   ·refine .agg (by simp;omega) (fun i p x hi hx=>?_) (fun i x hx=>?_)
    ·obtain⟨_,hi⟩:=dM hi;rw[Array.getElem?_extract]at hx;split at hx
     ·exact h2 _ p x hi hx
     ·cases hx
    ·rw[Array.getElem?_extract]at hx;split at hx
     ·exact h3 _ x hx
     ·cases hx
  ·cases h
 ·rename_i ha;have ha:ao E.P t=false:=by simpa using ha
  split at h
  ·rename_i v hv;obtain⟨u,h1,h2,h3,h4⟩:=Jl h;obtain⟨d,hu⟩:=FW h;refine⟨u,fun R' k'=>by simp[C1,ha,hv,h1],h2,fun id hid=>bI (List.mem_of_getElem? hv) (h4 id hid),fun μ φ w xs g1 g2 g3=>?_⟩;have bm:off<cs.length:=(List.getElem?_eq_some_iff.1 hv).1;have hx:xs[off]?=some xs[off]:=Array.getElem?_eq_getElem (by omega);exact⟨_,zk hu ha hx,h3 _ _ _ _ (g2 off v _ hv hx)⟩
  ·cases h
theorem Rw(h:C2 E s x j k=some r):∃v,(∀(R':Type)(k':V→Option R'),C2 E s x j k'=k' v)∧k v=some r∧(∀id,v.has id=true→x.has id=true)∧∀(μ:Ro)(φ:Nat→aA)(w:World)(y:Value),ae E.P μ φ x y→∃z,(Instr.field s y j).run E.P w=.ok z w∧ae E.P μ φ v z:=by
 unfold C2 at h;split at h
 ·rename_i o t cs ho hc;obtain⟨fs,f,hu,hf,rfl,rfl,hz⟩:=BI ho;obtain⟨v,h1,h2,h3,h4⟩:=Jn h;obtain⟨c1,c2⟩:=oq hc;refine⟨v,fun R' k'=>by simp[C2,ho,hc,h1],h2,fun id hid=>c1 id (h3 id hid),fun μ φ w y hy=>?_⟩;obtain⟨xs,rfl,g1,g2,g3⟩:=c2 _ _ _ _ hy;obtain⟨z,hz,hv⟩:=h4 μ φ w xs g1 g2 g3;exact⟨z,by simp[Instr.field,run_underlying hu,hf,Go.asAgg,hz],hv⟩
 ·cases h
theorem wf_u8(b:UInt8):(Lit.int .u8 b.toNat).wf=true:=by rw[nX];have:=b.toNat_lt;simp[IntKind.min,IntKind.max,IntKind.signed,IntKind.bits];omega
theorem Rx{ix:V}(h:Av E t x ix k=some r):∃v,(∀(R':Type)(k':V→Option R'),Av E t x ix k'=k' v)∧k v=some r∧(∀id,v.has id=true→x.has id=true)∧∀(μ:Ro)(φ:Nat→aA)(w:World)(y z:Value),ae E.P μ φ x y→ae E.P μ φ ix z→∃u,(Instr.index t y z).run E.P w=.ok u w∧ae E.P μ φ v u:=by
 unfold Av at h;split at h
 ·rename_i q i;split at h
  ·rename_i s hu;obtain⟨b,hb,hk⟩:=Option.bind_eq_some_iff.1 h;refine⟨_,fun R' k'=>by simp[Av,hu,hb],hk,by simp,fun μ φ w y z hy hz=>?_⟩;cases hz with
   |pv hz=>cases hz with
    |int zi=>
     cases hy with
     |pv hy=>cases hy with
      |str hl=>
       unfold Rm at hb;split at hb
       ·rename_i h0;have bm:=(List.getElem?_eq_some_iff.1 hb).1;have gB:(⟨s.toArray⟩:ByteArray)[i.toNat]?=some b:=by
         rw[getElem?_def];have:i.toNat<(⟨s.toArray⟩:ByteArray).size:=by simpa[ByteArray.size]using bm
         rw[dif_pos this];have e:=(List.getElem?_eq_some_iff.1 hb).2;simp only[Option.some.injEq];rw[←e];rfl
        refine⟨_,?_,.pv (.int (wf_u8 b))⟩;simp[Instr.index,asIntOf,run_underlying hu,h0,gB]
       ·cases hb
  ·rename_i n et hu;split at h
   ·rename_i cs hc;split at h
    ·rename_i hn;obtain⟨v,h1,h2,h3,h4⟩:=Jn h;obtain⟨c1,c2⟩:=oq hc;refine⟨v,fun R' k'=>by simp only[Av,hu,hc];rw[if_pos hn,h1],h2,fun id hid=>c1 id (h3 id hid),fun μ φ w y z hy hz=>?_⟩;obtain⟨xs,rfl,g1,g2,g3⟩:=c2 _ _ _ _ hy;obtain⟨u,hu1,hv⟩:=h4 μ φ w xs g1 g2 g3;cases hz with
     |pv hz=>cases hz with
      |int zi=>refine⟨u,?_,hv⟩;have hr:=hn.1;unfold ah at hr;simp[Instr.index,asIntOf,run_underlying hu,hr.1,hr.2,jq (show aP E.P et≠0 by omega),hu1]
    ·cases h
   ·cases h
  ·cases h
 ·cases h
end
end Go.Ab
set_option linter.unusedVariables false
namespace Go.Ab
open Go.RowKit (Below)
section
variable {R:Type} {E:Env}
theorem Di(s:Bytes):(⟨s.toArray⟩:ByteArray).size=s.length:=by show s.toArray.size=_;simp
theorem Dj{n:Nat}(h:n≤maxLen):(Lit.int .i64 (n:Int)).wf=true:=by rw[nX];simp only[maxLen]at h;simp[IntKind.min,IntKind.max,IntKind.signed,IntKind.bits];omega
variable{P:Program}{μ:Ro}{sz:Nat}{es:List PV}
theorem Z8{x:Value}(h:af P μ (.rs sz es) x):∃a cap,x=.slice a es.length cap∧es.length≤maxLen:=by
 cases h with
 |kE=>exact⟨none,0,rfl,by simp⟩
 | @Fk _ cap a h=>exact⟨some a,cap,rfl,by simp⟩
 |rs X h1 h2=>exact⟨_,_,rfl,by omega⟩
variable{φ:Nat→aA}{m:Mem}{w:World}
theorem av.arr{G:Nat→Option (List PV)}{w0:br}(hM:av P G w0 μ φ m w){id s:Nat}{et:TypeId}(hm:m id=some (.arr s et es)∨m id=some (.pR s et es)):aF P μ φ w id s et es:=by
 rcases hm with hm|hm
 ·exact hM.dy id _ hm
 ·exact(hM.dy id _ hm).1
theorem aF.ot{id s:Nat}{et:TypeId}(h:aF P μ φ w id s et es):es.length≤(φ id).cap∧(φ id).cap≤maxLen:=by
 obtain⟨a1,a2,a3,a4,a5,a6,a7⟩:=h;refine⟨?_,a6⟩;split at a7
 ·rw[a7.1,a7.2];simp
 ·obtain⟨c,_,_,_,c3,_⟩:=a7;exact c3
variable{x:V}{k:Nat→bk→Option R}{r:R}
theorem W4(h:Ch m x k=some r):∃n ft,(∀m2:Mem,(∀x∈ft,m2 x.2=m x.2)→∀(R':Type)(k':Nat→bk→Option R'),Ch m2 x k'=k' n ft)∧k n ft=some r∧(∀x∈ft,x.1=false)∧∀(P:Program)(G:Nat→Option (List PV))(w0:br)(μ:Ro)(φ:Nat→aA)(w:World)(y:Value),av P G w0 μ φ m w→ae P μ φ x y→(∀id,x.has id=true→(m id).isSome=true)→n≤maxLen∧∃a cap,y=.slice a n cap:=by
 unfold Ch at h;split at h
 ·refine⟨_,_,fun m2 _ R' k'=>by simp[Ch],h,by simp,fun P G w0 μ φ w y hM hy _=>?_⟩;cases hy with
  |pv hy=>obtain⟨a,cap,rfl,hl⟩:=Z8 hy;exact⟨hl,_,_,rfl⟩
 ·refine⟨_,_,fun m2 _ R' k'=>by simp[Ch],h,by simp,fun P G w0 μ φ w y hM hy _=>?_⟩;cases hy;exact⟨by simp,_,_,rfl⟩
 ·rename_i id lo len;have key:∀(s:Nat)(et:TypeId)(es:List PV),(m id=some (.arr s et es)∨m id=some (.pR s et es))→∀(P:Program)(G:Nat→Option (List PV))(w0:br)(μ:Ro)(φ:Nat→aA)(w:World)(y:Value),av P G w0 μ φ m w→ae P μ φ (.fH id lo len) y→len≤maxLen∧∃a cap,y=.slice a len cap:=by
   intro s et es hm P G w0 μ φ w y hM hy;have hA:=hM.arr hm;have hl:=hA.ot;cases hy with
   |qn=>exact⟨by simp,_,_,rfl⟩
   |fH hg LH ha=>have:=hA.1;exact⟨by omega,_,_,rfl⟩
  split at h
  ·rename_i s et es hm;exact⟨_,_,fun m2 cq R' k'=>by have:=cq (false,id) (by simp);simp only at this;simp[Ch,this,hm],h,by simp,fun P G w0 μ φ w y hM hy _=>key s et es (.inl hm) P G w0 μ φ w y hM hy⟩
  ·rename_i s et es hm;exact⟨_,_,fun m2 cq R' k'=>by have:=cq (false,id) (by simp);simp only at this;simp[Ch,this,hm],h,by simp,fun P G w0 μ φ w y hM hy _=>key s et es (.inr hm) P G w0 μ φ w y hM hy⟩
  ·cases h
 ·rename_i id;split at h
  ·rename_i s et es hm;refine⟨_,_,fun m2 cq R' k'=>by have:=cq (false,id) (by simp);simp only at this;simp[Ch,this,hm],h,by simp,fun P G w0 μ φ w y hM hy _=>?_⟩;have hA:=hM.arr (.inl hm);have hl:=hA.ot;obtain⟨a1,a2,a3,a4,a5,a6,a7⟩:=hA;refine⟨by omega,?_⟩;cases hy with
   |rL hg=>rw[hg]at a7;simp only[a7.1];exact⟨_,_,rfl⟩
   |os hg=>rw[a1];exact⟨_,_,rfl⟩
  ·rename_i s et es hm;refine⟨_,_,fun m2 cq R' k'=>by have:=cq (false,id) (by simp);simp only at this;simp[Ch,this,hm],h,by simp,fun P G w0 μ φ w y hM hy _=>?_⟩;have hA:=hM.arr (.inr hm);have hl:=hA.ot;obtain⟨a1,a2,a3,a4,a5,a6,a7⟩:=hA;refine⟨by omega,?_⟩;cases hy with
   |rL hg=>rw[hg]at a7;simp only[a7.1];exact⟨_,_,rfl⟩
   |os hg=>rw[a1];exact⟨_,_,rfl⟩
  ·rename_i s et es hm;refine⟨_,_,fun m2 cq R' k'=>by have:=cq (false,id) (by simp);simp only at this;simp[Ch,this,hm],h,by simp,fun P G w0 μ φ w y hM hy _=>?_⟩;have hA:aV P μ φ w id s et es:=hM.dy id _ hm;obtain⟨a1,a2,a3,a4,a5,a6,a7⟩:=hA;have hl:es.length≤(φ id).cap:=by
    split at a7
    ·rw[a7.1];simp
    ·obtain⟨c,_,_,_,c3,_⟩:=a7;exact c3
   refine⟨by omega,?_⟩;cases hy with
   |rL hg=>rw[hg]at a7;simp only[a7.1];exact⟨_,_,rfl⟩
   |os hg=>rw[a1];exact⟨_,_,rfl⟩
  ·rename_i cs hm;split at h
   ·rename_i hlen;refine⟨_,_,fun m2 cq R' k'=>by have:=cq (false,id) (by simp);simp only at this;simp[Ch,this,hm,hlen],h,by simp,fun P G w0 μ φ w y hM hy _=>?_⟩;obtain⟨g,c,T,hg,hh,hs,hv,sX,xZ⟩:=hM.dy id _ hm;refine⟨hlen,?_⟩;cases hy with
    |rL bP=>rw[hg]at bP;cases bP
    |os bP=>rw[xZ];exact⟨_,_,rfl⟩
   ·cases h
  ·cases h
 ·cases h
theorem W5(h:Rn sz m x k=some r):∃n ft,(∀m2:Mem,(∀x∈ft,m2 x.2=m x.2)→∀(R':Type)(k':Nat→bk→Option R'),Rn sz m2 x k'=k' n ft)∧k n ft=some r∧(∀x∈ft,x.1=false)∧∀(P:Program)(G:Nat→Option (List PV))(w0:br)(μ:Ro)(φ:Nat→aA)(w:World)(y:Value),av P G w0 μ φ m w→ae P μ φ x y→(∀id,x.has id=true→(m id).isSome=true)→n≤maxLen∧∃a cap,y=.slice a n cap:=by
 unfold Rn at h;split at h
 ·rename_i id i off;split at h
  ·rename_i s et es hm;obtain⟨e,he,h⟩:=Option.bind_eq_some_iff.1 h;obtain⟨rs,hr,h⟩:=Option.bind_eq_some_iff.1 h;refine⟨_,_,fun m2 cq R' k'=>by have:=cq (false,id) (by simp);simp only at this;simp[Rn,this,hm,he,hr],h,by simp,fun P G w0 μ φ w y hM hy _=>?_⟩;have hN:aV P μ φ w id s et es:=hM.dy id _ hm;obtain⟨_,_,_,_,⟨⟨C4,hA⟩,_⟩,_⟩:=hN.row he hr;have hl:=hA.ot;have a1:=hA.1;refine⟨by omega,?_⟩;have hy:=hy.L6 (ν:=μ);cases hy with
   |rL hg=>have a7:=hA.2.2.2.2.2.2;simp only[hg]at a7;simp only[a7.1];exact⟨_,_,rfl⟩
   |os hg=>rw[a1];exact⟨_,_,rfl⟩
  ·cases h
 ·rename_i cB;obtain⟨n,ft,h1,h2,h3,h4⟩:=W4 h;refine⟨n,ft,fun m2 cq R' k'=>?_,h2,h3,h4⟩;unfold Rn;split
  ·exact absurd rfl (cB _ _ _)
  ·exact h1 m2 cq R' k'
theorem W6(h:Rp m x k=some r):∃n ft,(∀m2:Mem,(∀x∈ft,m2 x.2=m x.2)→∀(R':Type)(k':Nat→bk→Option R'),Rp m2 x k'=k' n ft)∧k n ft=some r∧(∀x∈ft,x.1=false)∧n≤maxLen∧∀(P:Program)(G:Nat→Option (List PV))(w0:br)(μ:Ro)(φ:Nat→aA)(w:World)(y:Value)(t kt et ty:TypeId),P.underlying t=some (.map kt et)→av P G w0 μ φ m w→ae P μ φ x y→(Builtin.len_ #[t] ty #[y]).run P w=.ok (.int .i64 n) w:=by
 unfold Rp at h;split at h
 ·rename_i id;split at h
  ·rename_i kt es hm;split at h
   ·rename_i hl;refine⟨_,_,fun m2 cq R' k'=>by have:=cq (false,id) (by simp);simp only at this;simp[Rp,this,hm,hl],h,by simp,hl,fun P G w0 μ φ w y t kt et ty hu hM hy=>?_⟩;cases hy with
    | @om _ g hg=>obtain⟨g',en,clock,kk,bP,hh,hs,_⟩:=hM.dy id _ hm;rw[hg]at bP;simp only[Option.some.injEq]at bP;subst bP;simp[Builtin.len_,run_underlying hu,getObj,Sem.run,hh,goInt,hs]
   ·cases h
  ·cases h
 ·refine⟨_,_,fun m2 _ R' k'=>by simp[Rp],h,by simp,by simp,fun P G w0 μ φ w y t kt et ty hu hM hy=>?_⟩;cases hy with
  |pv hy=>cases hy;simp[Builtin.len_,run_underlying hu,goInt]
 ·cases h
variable{t:TypeId}
theorem W7{k:V→bk→Option R}(h:I8 E t x m k=some r):∃v ft,(∀m2:Mem,(∀x∈ft,m2 x.2=m x.2)→∀(R':Type)(k':V→bk→Option R'),I8 E t x m2 k'=k' v ft)∧k v ft=some r∧(∀x∈ft,x.1=false)∧(∀id,v.has id=false)∧∀(G:Nat→Option (List PV))(w0:br)(μ:Ro)(φ:Nat→aA)(w:World)(y:Value)(ty:TypeId),av E.P G w0 μ φ m w→ae E.P μ φ x y→(∀id,x.has id=true→(m id).isSome=true)→∃z,(Builtin.len_ #[t] ty #[y]).run E.P w=.ok z w∧ae E.P μ φ v z:=by
 unfold I8 at h;split at h
 ·rename_i n e hu;split at h
  ·rename_i hn;exact⟨_,_,fun m2 _ R' k'=>by simp[I8,hu,hn],h,by simp,by simp,fun G w0 μ φ w y ty hM hy _=>⟨_,by simp[Builtin.len_,run_underlying hu,goInt],.pv (.int (Dj hn))⟩⟩
  ·cases h
 ·rename_i hu;split at h
  ·refine⟨_,_,fun m2 _ R' k'=>by simp[I8,hu],h,by simp,by simp,fun G w0 μ φ w y ty hM hy _=>?_⟩;cases hy with
   |pv hy=>cases hy with
    | @str s hl=>exact⟨_,by simp[Builtin.len_,run_underlying hu,goInt,Di],.pv (.int (Dj hl))⟩
  ·cases h
 ·rename_i e hu;obtain⟨n,ft,h1,h2,h3,h4⟩:=W5 h;refine⟨_,ft,fun m2 cq R' k'=>by simp only[I8,hu];rw[h1 m2 cq],h2,h3,by simp,fun G w0 μ φ w y ty hM hy hq=>?_⟩;obtain⟨hl,a,cap,rfl⟩:=h4 _ _ _ _ _ _ _ hM hy hq;exact⟨_,by simp[Builtin.len_,run_underlying hu,goInt],.pv (.int (Dj hl))⟩
 ·rename_i kt et hu;obtain⟨n,ft,h1,h2,h3,hl,h4⟩:=W6 h;refine⟨_,ft,fun m2 cq R' k'=>by simp only[I8,hu];rw[h1 m2 cq],h2,h3,by simp,fun G w0 μ φ w y ty hM hy hq=>?_⟩;exact⟨_,h4 _ _ _ _ _ _ _ _ _ _ _ hu hM hy,.pv (.int (Dj hl))⟩
 ·cases h
theorem Dk{d i:Int}{v:Option V}(h:jB d v=some i):(v=none∧i=d)∨∃q,v=some (.pv (.int q i)):=by
 unfold jB at h;split at h
 ·simp only[Option.some.injEq]at h;exact .inl ⟨rfl,h.symm⟩
 ·simp only[Option.some.injEq]at h;subst h;exact .inr ⟨_,rfl⟩
 ·cases h
theorem run_sliceBound{P:Program}{w:World}{q:IntKind}{i:Int}{y:Nat}{code:BoundsCode}(h0:0≤i)(h1:i≤(y:Int)):(Instr.sliceBound (.int q i) y code).run P w=.ok i.toNat w:=by simp[Instr.sliceBound,asIntOf,h0,h1]
variable{Dl ny:Option Value}
theorem lu{isS:Bool}{len cap:Nat}{l h:Int}{lo hi:Option V}(hl:jB 0 lo=some l)(hh:jB len hi=some h)(rl:∀v,lo=some v→∃y,Dl=some y∧ae P μ φ v y)(rl0:lo=none→Dl=none)(rh:∀v,hi=some v→∃y,ny=some y∧ae P μ φ v y)(rh0:hi=none→ny=none)(b0:0≤l)(b1:l≤h)(b2:h≤(len:Int))(b3:len≤cap):(Instr.sliceBounds isS len cap Dl ny none).run P w=.ok (l.toNat,h.toNat,cap) w:=by
 have e1:∃y,(ny=none∧h=len)∨(ny=some y∧∃q,y=.int q h):=by
  rcases Dk hh with⟨rfl,rfl⟩|⟨q,rfl⟩
  ·exact⟨undef,.inl ⟨rh0 rfl,rfl⟩⟩
  ·obtain⟨y,rfl,hy⟩:=rh _ rfl;cases hy with
   |pv hy=>cases hy with
    |int hw=>exact⟨_,.inr ⟨rfl,q,rfl⟩⟩
 have e2:∃y,(Dl=none∧l=0)∨(Dl=some y∧∃q,y=.int q l):=by
  rcases Dk hl with⟨rfl,rfl⟩|⟨q,rfl⟩
  ·exact⟨undef,.inl ⟨rl0 rfl,rfl⟩⟩
  ·obtain⟨y,rfl,hy⟩:=rl _ rfl;cases hy with
   |pv hy=>cases hy with
    |int hw=>exact⟨_,.inr ⟨rfl,q,rfl⟩⟩
 clear rl rl0 rh rh0 hl hh;obtain⟨y,⟨rfl,rfl⟩|⟨rfl,q,rfl⟩⟩:=e1<;>obtain⟨z,⟨rfl,rfl⟩|⟨rfl,q',rfl⟩⟩:=e2
 ·simp[Instr.sliceBounds]
 ·have:= @run_sliceBound P w q' l len BoundsCode.sliceB b0 (by omega);simp[Instr.sliceBounds,this]
 ·have:= @run_sliceBound P w q h cap (if isS then BoundsCode.sliceAcap else .sliceAlen) (by omega) (by omega);simp[Instr.sliceBounds,this]
 ·have h1:= @run_sliceBound P w q h cap (if isS then BoundsCode.sliceAcap else .sliceAlen) (by omega) (by omega);have h2:= @run_sliceBound P w q' l h.toNat BoundsCode.sliceB b0 (by omega);simp[Instr.sliceBounds,h1,h2]
theorem str_slice{s:Bytes}{l h:Nat}(hl:l≤h)(hh:h≤s.length):(⟨s.toArray⟩:ByteArray).extract l h=⟨((s.take h).drop l).toArray⟩:=by apply ByteArray.ext;simp only[ByteArray.data_extract];apply Array.ext';simp[List.extract_eq_take_drop,List.drop_take]
theorem TL{x:Value}{l h:Nat}(hx:af P μ (.rs sz es) x)(hl:l≤h)(hh:h≤es.length):∃a cap,x=.slice a es.length cap∧es.length≤cap∧af P μ (.rs sz ((es.take h).drop l)) (.slice (if cap=l then a else a.map (·.add (l*sz))) (h-l) (cap-l)):=by
 have hlen:((es.take h).drop l).length=h-l:=by simp;omega
 cases hx with
 |kE=>
  simp at hh;subst hh;have:l=0:=by omega
  subst this;exact⟨none,0,rfl,by simp,by simpa using af.kE⟩
 | @Fk _ cap a hc=>
  simp at hh;subst hh;have:l=0:=by omega
  subst this;refine⟨some a,cap,rfl,by simp,?_⟩;have:(if cap=0 then some a else(some a).map (·.add (0*sz)))=some a:=by split<;>simp[Addr.add]
  rw[this];exact .Fk hc
 | @rs _ _ b o cap X h1 h2 h3 h4 h5 h6=>
  refine⟨_,cap,rfl,h1,?_⟩;have er:∀(i:Nat)e,((es.take h).drop l)[i]?=some e→es[l+i]?=some e:=fun i e hi=>(dB (mi hi)).2;by_cases hz:h=l
  ·have:(es.take h).drop l=[]:=List.eq_nil_of_length_eq_zero (by omega);rw[this];have TM:h-l=0:=by omega
   rw[TM];split
   ·exact .Fk (by omega)
   ·simp only[Option.map_some];exact .Fk (by omega)
  ·have hc:cap≠l:=by omega
   rw[if_neg hc];simp only[Option.map_some,Addr.add_mid];have:=af.rs (P:=P) (μ:=μ) (sz:=sz) (es:=(es.take h).drop l) (b:=b) (o:=o+l*sz) (cap:=cap-l) (fun i j=>X (l+i) j) (by omega) (by omega) (fun i e hi=>h3 _ e (er i e hi)) (fun i e j p hi hj=>by have:=h4 _ e j p (er i e hi) hj;rw[Nat.add_mul]at this;rw[←this];congr 1;omega) (fun i e j p hi hj=>h5 _ e j p (er i e hi) hj) (fun i e j p hi hj=>h6 _ e j p (er i e hi) hj);rw[hlen]at this;exact this
theorem tY{e:TypeId}{a:Option Addr}{len cap l h:Nat}(hu:P.underlying t=some (.slice e))(hz:aP P e≠0)(hb:(Instr.sliceBounds true len cap Dl ny none).run P w=.ok (l,h,cap) w):(Instr.sliceAt t (.slice a len cap) Dl ny none).run P w=.ok (.slice (if cap=l then a else a.map (·.add (l*aP P e))) (h-l) (cap-l)) w:=by simp[Instr.sliceAt,Instr.slice,run_underlying hu,hb,jq hz]
theorem Ry{lo hi mx:Option V}{k:V→bk→Option R}(h:tS E t x lo hi mx m k=some r):∃v ft,(∀m2:Mem,(∀x∈ft,m2 x.2=m x.2)→∀(R':Type)(k':V→bk→Option R'),tS E t x lo hi mx m2 k'=k' v ft)∧k v ft=some r∧(∀x∈ft,x.1=false)∧(∀id,v.has id=true→x.has id=true)∧∀(G:Nat→Option (List PV))(w0:br)(μ:Ro)(φ:Nat→aA)(w:World)(y:Value)(Dl ny YW:Option Value),av E.P G w0 μ φ m w→ae E.P μ φ x y→(∀v,lo=some v→∃y,Dl=some y∧ae E.P μ φ v y)→(lo=none→Dl=none)→(∀v,hi=some v→∃y,ny=some y∧ae E.P μ φ v y)→(hi=none→ny=none)→(∀v,mx=some v→∃y,YW=some y∧ae E.P μ φ v y)→(mx=none→YW=none)→∃z,(Instr.sliceAt t y Dl ny YW).run E.P w=.ok z w∧ae E.P μ φ v z:=by
 unfold tS at h;split at h
 ·rename_i mv;split at h
  ·rename_i e id hu;split at h
   ·rename_i s et es hm;split at h
    ·rename_i qh hh qc c;split at h
     ·rename_i hb;refine⟨_,_,fun m2 cq R' k'=>by have:=cq (false,id) (by simp);simp only at this;simp only[tS,hu,this,hm];rw[if_pos hb],h,by simp,by simp[V.has],fun G w0 μ φ w y Dl ny YW hM hy r1 r2 r3 r4 r5 r6=>?_⟩;have hA:=hM.arr (.inl hm);have hle:=hA.ot;obtain⟨a1,a2,a3,a4,a5,a6,a7⟩:=hA;obtain⟨ym,rfl,hym⟩:=r5 _ rfl;have hlo:=r2 rfl;subst hlo;cases hym with
      |pv hym=>cases hym with
       |int hwc=>
        have hB:∀len cap:Nat,len=es.length→c≤(cap:Int)→(Instr.sliceBounds true len cap none ny (some (.int qc c))).run E.P w=.ok (0,hh.toNat,c.toNat) w:=by
         intro len cap hlen oR;have h1:= @run_sliceBound E.P w qc c cap BoundsCode.slice3Acap (by omega) oR;obtain⟨yh,rfl,hyh⟩:=r3 _ rfl;cases hyh with
         |pv hyh=>cases hyh with
          |int hwh=>have h2:= @run_sliceBound E.P w qh hh c.toNat BoundsCode.slice3B (by omega) (by omega);simp[Instr.sliceBounds,h1,h2]
        have hS:∀(a:Option Addr)(len cap:Nat),len=es.length→c≤(cap:Int)→(Instr.sliceAt t (.slice a len cap) none ny (some (.int qc c))).run E.P w=.ok (.slice (if c.toNat=0 then a else a.map (·.add (0*aP E.P e))) hh.toNat c.toNat) w:=by intro a len cap hlen oR;simp[Instr.sliceAt,Instr.slice,run_underlying hu,hB len cap hlen oR,jq (show aP E.P e≠0 by omega)]
        cases hy with
        |rL hg=>
         rw[hg]at a7;have h0:es.length=0:=by rw[a7.1];rfl
         refine⟨_,hS none 0 0 h0.symm (by omega),?_⟩;have e1:hh.toNat=0:=by omega
         have e2:c.toNat=0:=by omega
         rw[e1,e2];exact .qn hg
        | @os _ g hg=>
         refine⟨_,hS _ _ _ a1 (by omega),?_⟩;have:(if c.toNat=0 then some (⟨g,0,none⟩:Addr)else(some ⟨g,0,none⟩:Option Addr).map (·.add (0*aP E.P e)))=some ⟨g,0*(φ id).sz,none⟩:=by split<;>simp[Addr.add]
         rw[this];exact .fH hg (by omega) (.inl rfl) (by omega) (by omega)
     ·cases h
    ·cases h
   ·cases h
  ·cases h
 ·split at h
  ·rename_i s hu;split at h
   ·rename_i l hh hl PY;split at h
    ·rename_i hb;refine⟨_,_,fun m2 _ R' k'=>by simp only[tS,hu,hl,PY];rw[if_pos hb],h,by simp,by simp,fun G w0 μ φ w y Dl ny YW hM hy r1 r2 r3 r4 _ r6=>?_⟩;have hmx:=r6 rfl;subst hmx;cases hy with
     |pv hy=>cases hy with
      |str hlen=>have hB:=lu (P:=E.P) (w:=w) (isS:=false) (cap:=s.length) hl PY r1 r2 r3 r4 hb.1 hb.2.1 hb.2.2 (Nat.le_refl _);refine⟨_,?_,.pv (.str (s:=(s.take hh.toNat).drop l.toNat) (by simp;omega))⟩;simp only[Instr.sliceAt,Instr.slice,Sem.run_bind,run_underlying hu,Result.andThen_ok,Di,hB];simp only[Option.isSome_none,Bool.false_eq_true,if_false,Sem.run_bind,Sem.run_pure,Result.andThen_ok,hB];rw[str_slice (by omega) (by omega)]
    ·cases h
   ·cases h
  ·rename_i e sz es hu;split at h
   ·rename_i l hh hl PY;split at h
    ·rename_i hb;refine⟨_,_,fun m2 _ R' k'=>by simp only[tS,hu,hl,PY];rw[if_pos hb],h,by simp,by simp,fun G w0 μ φ w y Dl ny YW hM hy r1 r2 r3 r4 _ r6=>?_⟩;have hmx:=r6 rfl;subst hmx;cases hy with
     |pv hy=>obtain⟨a,cap,rfl,hc,hr⟩:=TL (l:=l.toNat) (h:=hh.toNat) hy (by omega) (by omega);have hB:=lu (P:=E.P) (w:=w) (isS:=true) (cap:=cap) hl PY r1 r2 r3 r4 hb.1 hb.2.1 hb.2.2.1 hc;exact⟨_,tY hu hb.2.2.2.2 hB,by rw[←hb.2.2.2.1];exact .pv hr⟩
    ·cases h
   ·cases h
  ·rename_i e id hu;have key:∀(s:Nat)(et:TypeId)(es:List PV)(l hh:Int),(m id=some (.arr s et es)∨m id=some (.pR s et es))→jB 0 lo=some l→jB es.length hi=some hh→(0≤l∧l≤hh∧hh≤(es.length:Int)∧s=aP E.P e)→∀(G:Nat→Option (List PV))(w0:br)(μ:Ro)(φ:Nat→aA)(w:World)(y:Value)(Dl ny:Option Value),av E.P G w0 μ φ m w→ae E.P μ φ (.os id) y→(∀v,lo=some v→∃y,Dl=some y∧ae E.P μ φ v y)→(lo=none→Dl=none)→(∀v,hi=some v→∃y,ny=some y∧ae E.P μ φ v y)→(hi=none→ny=none)→∃z,(Instr.sliceAt t y Dl ny none).run E.P w=.ok z w∧ae E.P μ φ (.fH id l.toNat (hh.toNat-l.toNat)) z:=by
    intro s et es l hh hm hl PY hb G w0 μ φ w y Dl ny hM hy r1 r2 r3 r4;have hA:=hM.arr hm;have hle:=hA.ot;obtain⟨a1,a2,a3,a4,a5,a6,a7⟩:=hA;cases hy with
    |rL hg=>
     rw[hg]at a7;have h0:es.length=0:=by rw[a7.1];rfl
     have hB:=lu (P:=E.P) (w:=w) (isS:=true) (cap:=0) hl PY r1 r2 r3 r4 hb.1 hb.2.1 hb.2.2.1 (by omega);rw[h0]at hB;refine⟨_,tY hu (by omega) hB,?_⟩;have e1:l.toNat=0:=by omega
     have e2:hh.toNat=0:=by omega
     rw[e1,e2];exact .qn hg
    | @os _ g hg=>
     have hB:=lu (P:=E.P) (w:=w) (isS:=true) (cap:=(φ id).cap) hl PY r1 r2 r3 r4 hb.1 hb.2.1 hb.2.2.1 (by omega);rw[←a1]at hB;refine⟨_,tY hu (by omega) hB,?_⟩;by_cases hc:(φ id).cap=l.toNat
     ·rw[if_pos hc];by_cases h0:l.toNat=0
      ·rw[h0];exact .fH hg (by omega) (.inl (by simp)) (by omega) (by omega)
      ·exact .fH hg (by omega) (.inr ⟨hc,by omega⟩) (by omega) (by omega)
     ·rw[if_neg hc];simp only[Option.map_some,Addr.add_mid,Nat.zero_add];refine .fH hg (by omega) (.inl ?_) (by omega) (by omega);rw[a2,hb.2.2.2]
   split at h
   ·rename_i s et es hm;split at h
    ·rename_i l hh hl PY;split at h
     ·rename_i hb;exact⟨_,_,fun m2 cq R' k'=>by have:=cq (false,id) (by simp);simp only at this;simp only[tS,hu,this,hm,hl,PY];rw[if_pos hb],h,by simp,by simp[V.has],fun G w0 μ φ w y Dl ny YW hM hy r1 r2 r3 r4 _ r6=>by rw[r6 rfl];exact key s et es l hh (.inl hm) hl PY hb G w0 μ φ w y Dl ny hM hy r1 r2 r3 r4⟩
     ·cases h
    ·cases h
   ·rename_i s et es hm;split at h
    ·rename_i l hh hl PY;split at h
     ·rename_i hb;exact⟨_,_,fun m2 cq R' k'=>by have:=cq (false,id) (by simp);simp only at this;simp only[tS,hu,this,hm,hl,PY];rw[if_pos hb],h,by simp,by simp[V.has],fun G w0 μ φ w y Dl ny YW hM hy r1 r2 r3 r4 _ r6=>by rw[r6 rfl];exact key s et es l hh (.inr hm) hl PY hb G w0 μ φ w y Dl ny hM hy r1 r2 r3 r4⟩
     ·cases h
    ·cases h
   ·cases h
  ·cases h
end
end Go.Ab
