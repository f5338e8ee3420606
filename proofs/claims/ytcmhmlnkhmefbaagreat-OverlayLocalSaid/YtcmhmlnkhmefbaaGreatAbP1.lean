import Derived.Test.YtcmhmlnkhmefbaaGreatAbEval
import Derived.Below
import Derived.Laws.CopyRow
import Derived.Deep.MidRow
set_option linter.unusedVariables false
namespace Go.Ab
open Go.RowKit (Below)
abbrev Ro:=Nat→Option Obj
def TN:Bool:=true
structure jB(B:Nat)(w w':World):Prop extends Below B w w' where
 drawn:TN=true→w.drawn≤w'.drawn
namespace jB
theorem refl(B:Nat)(w:World):jB B w w:=⟨Below.refl B w,fun _=>Nat.le_refl _⟩
theorem trans{B:Nat}{a b c:World}(h:jB B a b)(k:jB B b c):jB B a c:=⟨h.toBelow.trans k.toBelow,fun u=>Nat.le_trans (h.drawn u) (k.drawn u)⟩
theorem mono{B B':Nat}{w w':World}(h:jB B w w')(hB:B'≤B):jB B' w w':=⟨h.toBelow.mono hB,h.drawn⟩
theorem drew{B:Nat}{a w:World}(h:jB B a w):jB B a w.drew:=⟨h.toBelow.drew,fun u=>Nat.le_succ_of_le (h.drawn u)⟩
theorem heap_alloc(w:World)(o:Obj)(k:Nat)(h:k<w.heap.size):(w.alloc o).heap[k]?=w.heap[k]?:=Below.heap_alloc w o k h
theorem alloc{B:Nat}{a w:World}(h:jB B a w)(hB:B≤w.heap.size)(o:Obj):jB B a (w.alloc o):=⟨h.toBelow.alloc hB o,h.drawn⟩
end jB
def YX.code:YX→Code
 |.ret=>.ret
 |.exit id=>.exit id
def Ix.obj(rc:Loop):Ix→Loop
 |.ready=>{rc with state:=.ready,pending:=none}
 |.busy=>{rc with state:=.busy,pending:=none}
 |.done j=>{rc with state:=.done,pending:=some j.code}
def cellAt(μ:Ro)(b o:Nat):Option Value:=match μ b with|some (.cells c _ _)=>c[o]?|_=>none
inductive ak(P:Program)(μ:Ro):PV→Value→Prop
 |int {k:IntKind} {n:Int}:(Lit.int k n).wf=true→ak P μ (.int k n) (.int k n)
 |bool {b:Bool}:ak P μ (.bool b) (.bool b)
 |str {s:Bytes}:s.length≤maxLen→ak P μ (.str s) (.string ⟨s.toArray⟩)
 |agg {cs:List PV} {xs:Array Value}:cs.length=xs.size→(∀(i:Nat)p x,cs[i]?=some p→xs[i]?=some x→ak P μ p x)→(∀(i:Nat)(x:Value),xs[i]?=some x→x.oneCell'=true)→ak P μ (.agg cs) (.agg xs)
 |bl {cs:List PV} {xs:Array Value}:cs.length=xs.size→(∀(i:Nat)p x,cs[i]?=some p→xs[i]?=some x→ak P μ p x)→ak P μ (.bl cs) (.tuple xs)
 |nD:ak P μ .nD (.pointer none)
 |rp {cs:List PV} {b o:Nat} (X:Nat→Value):(∀(i:Nat)p,cs[i]?=some p→cellAt μ b (o+i)=some (X i))→(∀(i:Nat)p,cs[i]?=some p→ak P μ p (X i))→(∀i:Nat,i<cs.length→(X i).oneCell'=true)→ak P μ (.rp cs) (.pointer (some ⟨b,o,none⟩))
 |jr {sz:Nat}:ak P μ (.rs sz []) (.slice none 0 0)
 |FV {sz cap:Nat} {a:Addr}:cap≤maxLen→ak P μ (.rs sz []) (.slice (some a) 0 cap)
 |rs {sz:Nat} {es:List PV} {b o cap:Nat} (X:Nat→Nat→Value):es.length≤cap→cap≤maxLen→(∀(i:Nat)e,es[i]?=some e→e.cells.length=sz)→(∀(i:Nat)e(j:Nat)p,es[i]?=some e→e.cells[j]?=some p→cellAt μ b (o+i*sz+j)=some (X i j))→(∀(i:Nat)e(j:Nat)p,es[i]?=some e→e.cells[j]?=some p→ak P μ p (X i j))→(∀(i:Nat)e(j:Nat)p,es[i]?=some e→e.cells[j]?=some p→(X i j).oneCell'=true)→ak P μ (.rs sz es) (.slice (some ⟨b,o,none⟩) es.length cap)
 |sR:ak P μ .sR (.map none)
 |rm {kt:TypeId} {ks vs:List PV} {b clock:Nat} {en:Array MapEntry} {kk:List Kd}:μ b=some (.map en clock)→en.size=ks.length→vs.length=ks.length→pM P kt=some kk→(∀(i:Nat)k,ks[i]?=some k→sG P kt kk k=true)→(∀(i:Nat)k e,ks[i]?=some k→en[i]?=some e→ak P μ k e.key)→(∀(i:Nat)v e,vs[i]?=some v→en[i]?=some e→ak P μ v e.val)→ak P μ (.rm kt ks vs) (.map (some b))
 |xT:ak P μ .xT .nilFunc
 |fn {f:FuncId} {cs:List PV} {xs:Array Value}:cs.length=xs.size→(∀(i:Nat)p x,cs[i]?=some p→xs[i]?=some x→ak P μ p x)→ak P μ (.fn f cs) (.func (.func f) #[] xs)
 |Qx:ak P μ (.Tm false) .nilIface
 |TO {t:TypeId} {x:Value}:ak P μ (.Tm true) (.iface t x)
 |bad {x:Value}:ak P μ .bad x
structure vu(P:Program)(μ:Ro)(g:Nat)(cs:List PV):Prop where
 rep:ak P μ (.rp cs) (.pointer (some ⟨g,0,none⟩))
 size:∃c T z,μ g=some (.cells c T z)∧c.size=cs.length
structure zh where
 g:Option Nat
 cap:Nat
 len:Nat
 sz:Nat
 deriving Inhabited
structure aG extends zh where
 row:Nat→Nat→zh:=fun _ _=>default
 deriving Inhabited
abbrev CH(g:Option Nat)(cap len sz:Nat):aG:={g,cap,len,sz}
def zh.up(p:zh):aG:={tozh:=p}
inductive ai(P:Program)(μ:Ro)(φ:Nat→aG):V→Value→Prop
 |pv {p:PV} {x:Value}:ak P μ p x→ai P μ φ (.pv p) x
 |bk:ai P μ φ .bk (.slice none 0 0)
 |op {id off g:Nat}:(φ id).g=some g→ai P μ φ (.op id off) (.pointer (some ⟨g,off,none⟩))
 |oe {id i off g:Nat}:(φ id).g=some g→ai P μ φ (.oe id i off) (.pointer (some ⟨g,i*(φ id).sz+off,none⟩))
 |pB {id:Nat}:(φ id).g=none→ai P μ φ (.os id) (.slice none 0 0)
 |os {id g:Nat}:(φ id).g=some g→ai P μ φ (.os id) (.slice (some ⟨g,0,none⟩) (φ id).len (φ id).cap)
 |ot {id:Nat}:(φ id).g=none→ai P μ φ (.fj id 0 0) (.slice none 0 0)
 |fj {id lo len cap g:Nat} {a:Addr}:(φ id).g=some g→lo+len≤(φ id).len→(a=⟨g,lo*(φ id).sz,none⟩∨((φ id).cap=lo∧0<lo))→len≤cap→lo+cap≤(φ id).cap→ai P μ φ (.fj id lo len) (.slice (some a) len cap)
 |Eu {id i off:Nat}:((φ id).row i off).g=none→ai P μ φ (.tc id i off) (.slice none 0 0)
 |tc {id i off g:Nat}:((φ id).row i off).g=some g→ai P μ φ (.tc id i off) (.slice (some ⟨g,0,none⟩) ((φ id).row i off).len ((φ id).row i off).cap)
 |wL {id i off s j off2 g:Nat}:((φ id).row i off).g=some g→((φ id).row i off).sz=s→ai P μ φ (.wL id i off s j off2) (.pointer (some ⟨g,j*s+off2,none⟩))
 |om {id g:Nat}:(φ id).g=some g→ai P μ φ (.om id) (.map (some g))
 |yl {id g:Nat}:(φ id).g=some g→ai P μ φ (.yl id) (.func (.yield g) #[] #[])
 |it {id g:Nat}:(φ id).g=some g→ai P μ φ (.it id) (.pointer (some ⟨g,0,none⟩))
 |fn {f:FuncId} {cs:List V} {xs:Array Value}:cs.length=xs.size→(∀(i:Nat)p x,cs[i]?=some p→xs[i]?=some x→ai P μ φ p x)→ai P μ φ (.fn f cs) (.func (.func f) #[] xs)
 |agg {cs:List V} {xs:Array Value}:cs.length=xs.size→(∀(i:Nat)p x,cs[i]?=some p→xs[i]?=some x→ai P μ φ p x)→(∀(i:Nat)(x:Value),xs[i]?=some x→x.oneCell'=true)→ai P μ φ (.agg cs) (.agg xs)
 |bl {cs:List V} {xs:Array Value}:cs.length=xs.size→(∀(i:Nat)p x,cs[i]?=some p→xs[i]?=some x→ai P μ φ p x)→ai P μ φ (.bl cs) (.tuple xs)
 |top {x:Value}:ai P μ φ .top x
def aM(P:Program)(μ:Ro)(φ:Nat→aG)(w:World)(id sz:Nat)(et:TypeId)(es:List PV):Prop:=
 (φ id).len=es.length∧(φ id).sz=sz∧sz=aT P et∧0<sz∧(∀(i:Nat)e,es[i]?=some e→e.cells.length=sz)∧(φ id).cap≤maxLen∧
 match(φ id).g with
 |none=>es=[]∧(φ id).cap=0
 |some g=>∃c:Array Value,w.heap[g]?=some (.cells c et (0,0))∧(φ id).cap*sz≤c.size∧es.length≤(φ id).cap∧(∀(i:Nat)e(j:Nat)p x,es[i]?=some e→e.cells[j]?=some p→c[i*sz+j]?=some x→ak P μ p x)∧(∀(i:Nat)(x:Value),i<es.length*sz→c[i]?=some x→x.oneCell'=true)
def bL.rowAt:bL→Nat→Nat→Bool
 |.nest _ _ es,i,off=>match es[i]? with
  |some e=>match e.cells[off]? with
   |some p=>p.isRow
   |none=>false
  |none=>false
 |.eX _ _ es,i,0=>match es[i]? with
  |some x=>x.2.isRow
  |none=>false
 |_,_,_=>false
def eL(P:Program)(μ:Ro)(R:zh)(w:World)(s:Nat)(rs:List PV)(x:Value):Prop:=(∃et,aM P μ (fun _=>R.up) w 0 s et rs)∧ai P μ (fun _=>R.up) (.os 0) x
def ek(P:Program)(μ:Ro)(R:zh)(w:World)(p:PV)(x:Value):Prop:=match p with
 |.fQ s rs=>eL P μ R w s rs x
 |p=>ak P μ p x
def aV(P:Program)(μ:Ro)(φ:Nat→aG)(w:World)(id sz:Nat)(et:TypeId)(es:List PV):Prop:=
 (φ id).len=es.length∧(φ id).sz=sz∧sz=aT P et∧0<sz∧(∀(i:Nat)e,es[i]?=some e→e.cells.length=sz)∧(φ id).cap≤maxLen∧
 match(φ id).g with
 |none=>es=[]∧(φ id).cap=0
 |some g=>∃c:Array Value,w.heap[g]?=some (.cells c et (0,0))∧(φ id).cap*sz≤c.size∧es.length≤(φ id).cap∧(∀(i:Nat)e(j:Nat)p x,es[i]?=some e→e.cells[j]?=some p→c[i*sz+j]?=some x→ek P μ ((φ id).row i j) w p x)∧(∀(i:Nat)(x:Value),i<es.length*sz→c[i]?=some x→x.oneCell'=true)
def jZ(en:Array MapEntry)(clock:Nat):Prop:=∀(i:Nat)e,en[i]?=some e→e.born<clock∧∀(j:Nat)e',en[j]?=some e'→e'.born=e.born→j=i
def jC(en:Array MapEntry)(seen:Array Nat):List MapEntry:=en.toList.filter fun e=> !seen.contains e.born
def fS(P:Program)(μ:Ro)(φ:Nat→aG)(w:World)(id:Nat):bL→Prop
 |.box cs=>∃(g:Nat)(c:Array Value)(T:TypeId),(φ id).g=some g∧w.heap[g]?=some (.cells c T (0,0))∧c.size=cs.length∧(∀(i:Nat)v x,cs[i]?=some v→c[i]?=some x→ai P μ φ v x)∧(∀(i:Nat)(x:Value),c[i]?=some x→x.oneCell'=true)∧(φ id).len=cs.length
 |.arr sz et es=>aM P μ φ w id sz et es
 |.nP sz et es=>aM P μ φ w id sz et es∧∀g,(φ id).g=some g→(μ g).isSome
 |.map kt es=>∃(g:Nat)(en:Array MapEntry)(clock:Nat)(kk:List Kd),(φ id).g=some g∧w.heap[g]?=some (.map en clock)∧en.size=es.length∧pM P kt=some kk∧(∀(i:Nat)k v,es[i]?=some (k,v)→sG P kt kk k=true)∧jZ en clock∧(∀(i:Nat)k v e,es[i]?=some (k,v)→en[i]?=some e→ak P μ k e.key∧ak P μ v e.val)
 |.nest sz et es=>aV P μ φ w id sz et es
 |.eX kt e0 es=>∃(g:Nat)(en:Array MapEntry)(clock:Nat)(kk:List Kd),(φ id).g=some g∧w.heap[g]?=some (.map en clock)∧en.size=es.length∧pM P kt=some kk∧(∀(i:Nat)k v,es[i]?=some (k,v)→sG P kt kk k=true)∧jZ en clock∧(∀(i:Nat)k v e,es[i]?=some (k,v)→en[i]?=some e→ak P μ k e.key∧(match v with
  |.fQ s rs=>aM P μ (fun _=>((φ id).row i 0).up) w 0 s e0 rs∧ai P μ (fun _=>((φ id).row i 0).up) (.os 0) e.val
  |v=>ak P μ v e.val))
 |.iter t es cur=>∃(g mg:Nat)(en:Array MapEntry)(clock:Nat)(seen:Array Nat),(φ id).g=some g∧w.heap[g]?=some (.mapIter (some mg) clock seen clock)∧μ mg=some (.map en clock)∧jZ en clock∧(jC en seen).length=es.length∧(∀(i:Nat)k v e,es[i]?=some (k,v)→(jC en seen)[i]?=some e→ak P μ k e.key∧ak P μ v e.val)∧∀k v,cur=some (k,v)→∃(i:Nat)(e:MapEntry),en[i]?=some e∧seen.back? =some e.born∧ak P μ k e.key∧ak P μ v e.val
 |.loop st=>∃(g:Nat)(rc:Loop),(φ id).g=some g∧w.heap[g]?=some (.loop (st.obj rc))
def bL.iA:bL→Bool
 |.nP .. =>false
 |_=>true
structure bA where
 w:World
 mu:Ro
 sv:Nat→Value
 dG:Ro:=fun _=>none
 kL:Ro:=fun _=>none
 rc:Nat→Option (Nat×Loop):=fun _=>none
abbrev bA.heap(B:bA):Array Obj:=B.w.heap
def bL.eh(b:bL)(p:aG)(g:Nat):Prop:=p.g=some g∨∃i off,b.rowAt i off=true∧(p.row i off).g=some g
def bL.apart(b:bL)(p:aG):Prop:=∀i off g,b.rowAt i off=true→(p.row i off).g=some g→p.g≠some g∧∀i' qk,b.rowAt i' qk=true→(p.row i' qk).g=some g→i'=i∧qk=off
structure ay(P:Program)(G:Nat→Option (List PV))(w0:bA)(μ:Ro)(φ:Nat→aG)(m:Mem)(w:World):Prop where
 below:jB w0.heap.size w0.w w
 ro:∀b o,μ b=some o→w.heap[b]?=some o
 aI:∀g cs,G g=some cs→vu P μ g cs
 dL:∀id b,m id=some b→fS P μ φ w id b
 own:∀id b g,m id=some b→b.eh (φ id) g→w0.heap.size≤g∧(b.iA=true→μ g=none)
 inj:∀PX id2 b1 b2 g,m PX=some b1→m id2=some b2→b1.eh (φ PX) g→b2.eh (φ id2) g→PX=id2
 apart:∀id b,m id=some b→b.apart (φ id)
 fl:∀j cs id,m j=some (.box cs)→cr id cs=true→(m id).isSome=true
 base:∀b o,μ b=some o→b<w0.heap.size→w0.mu b=some o
 dG:∀b o,w0.dG b=some o→μ b=some o
 zg:∀id st,m id=some (.loop st)→∃g rc,(φ id).g=some g∧w0.rc id=some (g,rc)∧w.heap[g]?=some (.loop (st.obj rc))
def aA(nt:Nat)(w0:bA)(a:Act):Nat→Value:=fun t=>if t<nt then a.tmps.getD t undef else w0.sv t
theorem oq{nt:Nat}{w0:bA}{a:Act}{t:Nat}(h:t<nt):aA nt w0 a t=a.tmps.getD t undef:=if_pos h
def Marks(B:Nat)(kL μ:Ro)(ds:List Deferred):Prop:=∃Ds:List Nat,ds=Ds.map (fun D=>{target:=.collected D,args:= #[]})∧Ds.Nodup∧∀D∈Ds,B≤D∧kL D=none∧μ D=some (.deferred (some []))
theorem Marks.nil(B:Nat)(kL μ:Ro):Marks B kL μ []:=⟨[],rfl,.nil,by simp⟩
theorem Marks.mono{B:Nat}{kL μ μ':Ro}(h:∀b o,μ b=some o→μ' b=some o){ds:List Deferred}:Marks B kL μ ds→Marks B kL μ' ds
 |⟨Ds,e,hn,hD⟩=>⟨Ds,e,hn,fun D hd=>⟨(hD D hd).1,(hD D hd).2.1,h _ _ (hD D hd).2.2⟩⟩
structure Rel(P:Program)(G:Nat→Option (List PV))(nt:Nat)(w0:bA)(μ:Ro)(φ:Nat→aG)(f:Fr)(m:Mem)(a:Act)(w:World):Prop extends ay P G w0 μ φ m w where
 size:a.tmps.size=nt
 defers:Marks w0.heap.size w0.kL μ a.defers
 kL:∀b o,w0.kL b=some o→w0.dG b=some o
 fr:∀t,ai P μ φ (f t) (aA nt w0 a t)
 live:∀t id,(f t).has id=true→(m id).isSome=true
section
variable {P:Program} {μ μ':Ro} {φ φ':Nat→aG}
variable{x:Value}
theorem zi(h:∀b o,μ b=some o→μ' b=some o){b o:Nat}(hx:cellAt μ b o=some x):cellAt μ' b o=some x:=by
 unfold cellAt at*;split at hx
 ·rename_i c t fz hb;rw[h _ _ hb];exact hx
 ·cases hx
variable{p:PV}
theorem ak.mono(h:∀b o,μ b=some o→μ' b=some o)(hp:ak P μ p x):ak P μ' p x:=by
 induction hp with
 |int h=>exact .int h
 |bool=>exact .bool
 |str h=>exact .str h
 |agg h1 _ h3 ih=>exact .agg h1 ih h3
 |bl h1 _ ih=>exact .bl h1 ih
 |nD=>exact .nD
 |rp X h1 _ h3 ih=>exact .rp X (fun i p hi=>zi h (h1 i p hi)) ih h3
 |jr=>exact .jr
 |FV h=>exact .FV h
 |rs X h1 h2 h3 h4 _ h6 ih=>exact .rs X h1 h2 h3 (fun i e j p hi hj=>zi h (h4 i e j p hi hj)) ih h6
 |sR=>exact .sR
 |rm h1 h2 h3 h4 h5 _ _ ih1 ih2=>exact .rm (h _ _ h1) h2 h3 h4 h5 ih1 ih2
 |xT=>exact .xT
 |fn h1 _ ih=>exact .fn h1 ih
 |Qx=>exact .Qx
 |TO=>exact .TO
 |bad=>exact .bad
theorem vu.mono(h:∀b o,μ b=some o→μ' b=some o){g:Nat}{cs:List PV}(hv:vu P μ g cs):vu P μ' g cs:=⟨hv.rep.mono h,let⟨c,T,z,h1,h2⟩:=hv.size;⟨c,T,z,h _ _ h1,h2⟩⟩
theorem bN{id:Nat}{v:V}:∀{cs:List V},v∈cs→v.has id=true→cr id cs=true
 |c::r,hm,hv=>by
  rcases List.mem_cons.1 hm with rfl|hm
  ·simp[cr,hv]
  ·simp[cr,bN hm hv]
theorem cV{id:Nat}:∀{cs:List V},cr id cs=true↔∃v∈cs,v.has id=true
 |[]=>by simp[cr]
 |c::r=>by simp[cr,cV (cs:=r)]
theorem uI{id:Nat}{v:V}:∀{cs:List V},v∈cs→v.sT id=true→wM id cs=true
 |c::r,hm,hv=>by
  rcases List.mem_cons.1 hm with rfl|hm
  ·simp[wM,hv]
  ·simp[wM,uI hm hv]
theorem ai.mono(h:∀b o,μ b=some o→μ' b=some o){v:V}{x:Value}(hv:ai P μ φ v x)(hφ:∀id,v.has id=true→φ' id=φ id):ai P μ' φ' v x:=by
 induction hv with
 |pv hp=>exact .pv (hp.mono h)
 |bk=>exact .bk
 |op hg=>exact .op (by rw[hφ _ (by simp[V.has])];exact hg)
 | @oe id i off g hg=>have e:=hφ id (by simp[V.has]);have:=ai.oe (P:=P) (μ:=μ') (φ:=φ') (id:=id) (i:=i) (off:=off) (g:=g) (by rw[e];exact hg);rw[e]at this;exact this
 | @pB id hg=>exact .pB (by rw[hφ id (by simp[V.has])];exact hg)
 | @os id g hg=>have e:=hφ id (by simp[V.has]);have:=ai.os (P:=P) (μ:=μ') (φ:=φ') (id:=id) (g:=g) (by rw[e];exact hg);rw[e]at this;exact this
 | @ot id hg=>exact .ot (by rw[hφ id (by simp[V.has])];exact hg)
 | @fj id lo len cap g a hg hl ha hc PU=>have e:=hφ id (by simp[V.has]);exact ai.fj (P:=P) (μ:=μ') (φ:=φ') (id:=id) (lo:=lo) (len:=len) (cap:=cap) (g:=g) (a:=a) (by rw[e];exact hg) (by rw[e];exact hl) (by rw[e];exact ha) hc (by rw[e];exact PU)
 | @Eu id i off hg=>exact .Eu (by rw[hφ id (by simp[V.has])];exact hg)
 | @tc id i off g hg=>have e:=hφ id (by simp[V.has]);have:=ai.tc (P:=P) (μ:=μ') (φ:=φ') (id:=id) (i:=i) (off:=off) (g:=g) (by rw[e];exact hg);rw[e]at this;exact this
 | @wL id i off s j off2 g hg hs=>have e:=hφ id (by simp[V.has]);exact .wL (by rw[e];exact hg) (by rw[e];exact hs)
 | @om id g hg=>exact .om (by rw[hφ id (by simp[V.has])];exact hg)
 | @yl id g hg=>exact .yl (by rw[hφ id (by simp[V.has])];exact hg)
 | @it id g hg=>exact .it (by rw[hφ id (by simp[V.has])];exact hg)
 |fn h1 _ ih=>exact .fn h1 (fun i p x hi hx=>ih i p x hi hx (fun id hid=>hφ id (by simp only[V.has];exact bN (List.mem_of_getElem? hi) hid)))
 |agg h1 _ h3 ih=>exact .agg h1 (fun i p x hi hx=>ih i p x hi hx (fun id hid=>hφ id (by simp only[V.has];exact bN (List.mem_of_getElem? hi) hid))) h3
 |bl h1 _ ih=>exact .bl h1 (fun i p x hi hx=>ih i p x hi hx (fun id hid=>hφ id (by simp only[V.has];exact bN (List.mem_of_getElem? hi) hid)))
 |top=>exact .top
variable{v:V}
theorem ai.Vr(h:∀b o,μ b=some o→μ' b=some o)(hv:ai P μ φ v x)(hφ:∀id,v.has id=true→(φ' id).tozh=(φ id).tozh∧(v.sT id=true→φ' id=φ id)):ai P μ' φ' v x:=by
 induction hv with
 |pv hp=>exact .pv (hp.mono h)
 |bk=>exact .bk
 |op hg=>exact .op (by rw[(hφ _ (by simp[V.has])).1];exact hg)
 | @oe id i off g hg=>have e:=(hφ id (by simp[V.has])).1;have:=ai.oe (P:=P) (μ:=μ') (φ:=φ') (id:=id) (i:=i) (off:=off) (g:=g) (by rw[e];exact hg);rw[e]at this;exact this
 | @pB id hg=>exact .pB (by rw[(hφ id (by simp[V.has])).1];exact hg)
 | @os id g hg=>have e:=(hφ id (by simp[V.has])).1;have:=ai.os (P:=P) (μ:=μ') (φ:=φ') (id:=id) (g:=g) (by rw[e];exact hg);rw[e]at this;exact this
 | @ot id hg=>exact .ot (by rw[(hφ id (by simp[V.has])).1];exact hg)
 | @fj id lo len cap g a hg hl ha hc PU=>have e:=(hφ id (by simp[V.has])).1;exact ai.fj (P:=P) (μ:=μ') (φ:=φ') (id:=id) (lo:=lo) (len:=len) (cap:=cap) (g:=g) (a:=a) (by rw[e];exact hg) (by rw[e];exact hl) (by rw[e];exact ha) hc (by rw[e];exact PU)
 | @Eu id i off hg=>exact .Eu (by rw[(hφ id (by simp[V.has])).2 (by simp[V.sT])];exact hg)
 | @tc id i off g hg=>have e:=(hφ id (by simp[V.has])).2 (by simp[V.sT]);have:=ai.tc (P:=P) (μ:=μ') (φ:=φ') (id:=id) (i:=i) (off:=off) (g:=g) (by rw[e];exact hg);rw[e]at this;exact this
 | @wL id i off s j off2 g hg hs=>have e:=(hφ id (by simp[V.has])).2 (by simp[V.sT]);exact .wL (by rw[e];exact hg) (by rw[e];exact hs)
 | @om id g hg=>exact .om (by rw[(hφ id (by simp[V.has])).1];exact hg)
 | @yl id g hg=>exact .yl (by rw[(hφ id (by simp[V.has])).1];exact hg)
 | @it id g hg=>exact .it (by rw[(hφ id (by simp[V.has])).1];exact hg)
 |fn h1 _ ih=>exact .fn h1 (fun i p x hi hx=>ih i p x hi hx (fun id hid=>⟨(hφ id (by simp only[V.has];exact bN (List.mem_of_getElem? hi) hid)).1,fun h2=>(hφ id (by simp only[V.has];exact bN (List.mem_of_getElem? hi) hid)).2 (by simp only[V.sT];exact uI (List.mem_of_getElem? hi) h2)⟩))
 |agg h1 _ h3 ih=>exact .agg h1 (fun i p x hi hx=>ih i p x hi hx (fun id hid=>⟨(hφ id (by simp only[V.has];exact bN (List.mem_of_getElem? hi) hid)).1,fun h2=>(hφ id (by simp only[V.has];exact bN (List.mem_of_getElem? hi) hid)).2 (by simp only[V.sT];exact uI (List.mem_of_getElem? hi) h2)⟩)) h3
 |bl h1 _ ih=>exact .bl h1 (fun i p x hi hx=>ih i p x hi hx (fun id hid=>⟨(hφ id (by simp only[V.has];exact bN (List.mem_of_getElem? hi) hid)).1,fun h2=>(hφ id (by simp only[V.has];exact bN (List.mem_of_getElem? hi) hid)).2 (by simp only[V.sT];exact uI (List.mem_of_getElem? hi) h2)⟩))
 |top=>exact .top
theorem ai.vv(h:∀b o,μ b=some o→μ' b=some o)(hv:ai P μ φ v x):ai P μ' φ v x:=hv.mono h fun _ _=>rfl
theorem ai.kill(id:Nat)(hv:ai P μ φ v x):ai P μ φ (pN id v) x:=by
 unfold pN;cases v.has id<;>simp
 ·exact hv
 ·exact .top
theorem ai.vw(id:Nat)(hv:ai P μ φ v x):ai P μ φ (l0 id v) x:=by
 unfold l0;cases v.sT id<;>simp
 ·exact hv
 ·exact .top
theorem uJ{id j:Nat}(h:(l0 id v).has j=true):v.has j=true∧(l0 id v).sT id=false:=by unfold l0 at h⊢;cases hv:v.sT id<;>simp[hv,V.has]at h⊢;exact h
theorem ek.pure{R:zh}{w:World}(h:ak P μ p x):ek P μ R w p x:=by
 unfold ek;split
 ·cases h
 ·exact h
theorem ek.Mj{R:zh}{w:World}(h:ek P μ R w p x)(hp:p.isRow=false):ak P μ p x:=by
 unfold ek at h;split at h
 ·cases hp
 ·exact h
theorem ak.Ax(h:ak P μ p x):p.isRow=false:=by cases h<;>rfl
theorem tr{id j:Nat}(h:(pN id v).has j=true):v.has j=true∧j≠id:=by
 unfold pN at h;cases hv:v.has id<;>simp[hv,V.has]at h
 ·refine⟨h,fun e=>?_⟩;subst e;rw[h]at hv;cases hv
end
end Go.Ab
set_option linter.unusedVariables false
namespace Go.Ab
open Go.RowKit (Below)
section
variable {P:Program} {G:Nat→Option (List PV)} {w0:bA} {μ:Ro} {φ:Nat→aG} {f:Fr} {m:Mem} {w:World}
@[simp] theorem adT(p:PV)(id:Nat):(V.pv p).has id=false:=by simp[V.has]
@[simp] theorem adQ(id:Nat):V.top.has id=false:=by simp[V.has]
@[simp] theorem ZG(id:Nat):V.bk.has id=false:=by simp[V.has]
theorem Mk(cs:List PV)(id:Nat):cr id (cs.map .pv)=false:=by
 induction cs with
 |nil=>rfl
 |cons c r ih=>simp[cr,ih]
theorem rW(k:IntKind)(n:Int):(Lit.int k n).wf=true↔k.min≤n∧n≤k.max:=by simp[Lit.wf]
theorem wf_wrap(k:IntKind)(n:Int):(Lit.int k (k.wrap n)).wf=true:=by rw[rW];cases k<;>simp only[IntKind.wrap,IntKind.min,IntKind.max,IntKind.signed,IntKind.bits]<;>simp<;>(try split)<;>omega
theorem ak.one{p:PV}{x:Value}(h:ak P μ p x)(h1:∀cs,p≠.agg cs)(h2:∀cs,p≠.bl cs)(h3:p≠.bad):x.oneCell'=true:=by cases h<;>first|rfl|exact absurd rfl (h1 _)|exact absurd rfl (h2 _)|exact absurd rfl h3
theorem A6(c:Value):ai P μ φ (xU c) c:=by
 unfold xU;split
 ·split
  ·exact .pv (.int (by assumption))
  ·exact .top
 ·exact .pv .bool
 ·rename_i s;split
  ·exact .pv (.str (by assumption))
  ·exact .top
 ·exact .pv .nD
 ·exact .bk
 ·exact .pv .sR
 ·exact .pv .xT
 ·exact .pv .Qx
 ·exact .top
theorem A7(c:Value)(id:Nat):(xU c).has id=false:=by unfold xU;split<;>(try split)<;>simp
theorem De(c:Value)(id:Nat):(C6 c).has id=false:=by
 unfold C6;split
 ·rename_i cs;split
  ·simp only[V.has];rw[Bool.eq_false_iff];intro h;obtain⟨v,hv,hh⟩:=cV.1 h;obtain⟨x,_,rfl⟩:=List.mem_map.1 hv;rw[A7]at hh;cases hh
  ·simp
 ·exact A7 _ _
theorem qW(c:Value):ai P μ φ (C6 c) c:=by
 unfold C6;split
 ·rename_i cs;split
  ·rename_i hc;refine .agg (by simp) (fun i p x hi hx=>?_) (fun i x hx=>?_)
   ·simp only[List.getElem?_map,Array.getElem?_toList,hx,Option.map_some,Option.some.injEq]at hi;subst hi;exact A6 x
   ·rw[List.all_eq_true]at hc;have:=hc x (by rw[←Array.getElem?_toList]at hx;exact List.mem_of_getElem? hx);cases x<;>first|rfl|(simp at this)
  ·exact .top
 ·exact A6 _
end
section
variable {R:Type} {E:Env} {w0:bA} {μ:Ro} {φ:Nat→aG} {f:Fr} {m:Mem} {a:Act} {w:World}
theorem al(h:Rel E.P E.aI E.fn.ntmps w0 μ φ f m a w)(x:Operand):ai E.P μ φ (bD E f x) (a.eval x)∧∀id,(bD E f x).has id=true→(m id).isSome=true:=by
 cases x with
 |tmp t=>
  simp only[bD];cases e:Nat.blt t E.fn.ntmps with
  |true=>
   have bt:t<E.fn.ntmps:=by rwa[Nat.blt_eq]at e
   have:=h.fr t;rw[oq bt]at this;exact⟨this,h.live t⟩
  |false=>exact⟨.top,fun id hid=>by cases hid⟩
 |const c=>exact⟨qW c,fun id hid=>by simp only[bD]at hid;rw[De]at hid;cases hid⟩
 |global g=>
  simp only[bD];cases hg:E.aI g with
  |none=>exact⟨.top,by simp⟩
  |some cs=>exact⟨.pv (h.aI g cs hg).rep,by simp⟩
 |func g=>exact⟨.fn (by simp) (by simp),by simp[bD,V.has,cr]⟩
variable{p:PV}
theorem ml{sz j:Nat}{q:PV}(h:(aL sz p)[j]?=some q):j<sz∧q=cell p j:=by
 unfold aL at h;have key:∀(n o j:Nat),(kB p o n)[j]?=some q→j<n∧q=cell p (o+j):=by
  intro n;induction n with
  |zero=>intro o j hj;simp[kB]at hj
  |succ n ih=>
   intro o j hj;cases j with
   |zero=>simp[kB]at hj;exact⟨by omega,by simp[hj]⟩
   |succ j=>simp only[kB,List.getElem?_cons_succ]at hj;obtain⟨h1,h2⟩:=ih (o+1) j hj;exact⟨by omega,by rw[h2];congr 1;omega⟩
 have:=key sz 0 j h;simpa using this
theorem bm(sz:Nat)(p:PV):(aL sz p).length=sz:=by
 unfold aL;have:∀n o,(kB p o n).length=n:=by
  intro n;induction n with
  |zero=>intro o;rfl
  |succ n ih=>intro o;simp[kB,ih]
 exact this _ _
theorem fL{sz:Nat}(h:p.cells.length=sz):aL sz p=p.cells:=by
 apply List.ext_getElem?;intro j;by_cases hj:j<sz
 ·have h1:j<(aL sz p).length:=by rw[bm];exact hj
  have h2:=ml (List.getElem?_eq_getElem h1);rw[List.getElem?_eq_getElem h1,h2.2,cell,List.getD_eq_getElem?_getD,List.getElem?_eq_getElem (by omega)];rfl
 ·rw[List.getElem?_eq_none (by rw[bm];omega),List.getElem?_eq_none (by omega)]
theorem ak.vz{P:Program}{μ:Ro}{n:Nat}{cs:List PV}{x:Value}(h:ak P μ (.agg cs) x)(hn:cs.length=n):ak P μ (.agg (aL n (.agg cs))) x:=by rw[fL (p:=.agg cs) (by simpa[PV.cells]using hn)];exact h
variable{t:TypeId}{k:PV→Option R}
theorem jQ{r:R}(h:fK E t p k=some r):∃q,(∀(R':Type)(k':PV→Option R'),fK E t p k'=k' q)∧k q=some r∧(∀(P:Program)(μ:Ro)x,ak P μ p x→ak P μ q x)∧q≠.bad∧(∀cs,q≠.bl cs)∧(aF E.P t=false→∀cs,q≠.agg cs):=by
 unfold fK at h;split at h
 ·rename_i q hu;obtain⟨n,hn,hk⟩:=Option.bind_eq_some_iff.1 h;have hp:p=.int q n:=by cases p<;>simp[asInt]at hn;obtain⟨rfl,rfl⟩:=hn;rfl
  exact⟨.int q n,fun R' k'=>by simp[fK,hu,hn],hk,fun P μ x hx=>hp▸hx,by simp,by simp,by simp⟩
 ·rename_i hu;obtain⟨n,hn,hk⟩:=Option.bind_eq_some_iff.1 h;have hp:p=.bool n:=by cases p<;>simp[asBool]at hn;subst hn;rfl
  exact⟨.bool n,fun R' k'=>by simp[fK,hu,hn],hk,fun P μ x hx=>hp▸hx,by simp,by simp,by simp⟩
 ·rename_i hu;obtain⟨n,hn,hk⟩:=Option.bind_eq_some_iff.1 h;have hp:p=.str n:=by cases p<;>simp[bB]at hn;subst hn;rfl
  exact⟨.str n,fun R' k'=>by simp[fK,hu,hn],hk,fun P μ x hx=>hp▸hx,by simp,by simp,by simp⟩
 ·rename_i e hu;obtain⟨es,hn,hk⟩:=Option.bind_eq_some_iff.1 h;refine⟨.rs (aT E.P e) es,fun R' k'=>by simp[fK,hu,hn],hk,fun P μ x hx=>?_,by simp,by simp,by simp⟩;cases p<;>simp[ab]at hn;split at hn
  ·rename_i hs;simp only[Option.some.injEq]at hn;rw[←hs,←hn];exact hx
  ·split at hn
   ·simp only[Option.some.injEq]at hn;subst hn;cases hx with
    |jr=>exact .jr
    |FV h=>exact .FV h
    |rs X h1 h2 _ _ _ _=>exact .FV h2
   ·cases hn
 ·rename_i fs hu;obtain⟨u,hn,hk⟩:=Option.bind_eq_some_iff.1 h;refine⟨_,fun R' k'=>by simp[fK,hu,hn],hk,fun P μ x hx=>?_,by simp,by simp,by simp[aF,hu]⟩;cases p<;>simp[asAgg]at hn;exact hx.vz hn
 ·rename_i n e hu;obtain⟨u,hn,hk⟩:=Option.bind_eq_some_iff.1 h;refine⟨_,fun R' k'=>by simp[fK,hu,hn],hk,fun P μ x hx=>?_,by simp,by simp,by simp[aF,hu]⟩;cases p<;>simp[asAgg]at hn;exact hx.vz hn
 ·rename_i e hu;split at h
  ·exact⟨.nD,fun R' k'=>by simp[fK,hu],h,fun P μ x hx=>hx,by simp,by simp,by simp⟩
  ·rename_i cs;exact⟨.rp cs,fun R' k'=>by simp[fK,hu],h,fun P μ x hx=>hx,by simp,by simp,by simp⟩
  ·cases h
 ·rename_i kt et hu;unfold dS at h;split at h
  ·exact⟨.sR,fun R' k'=>by simp[fK,hu,dS],h,fun P μ x hx=>hx,by simp,by simp,by simp⟩
  ·rename_i sU ks vs;split at h
   ·rename_i he;subst he;exact⟨.rm _ ks vs,fun R' k'=>by simp[fK,hu,dS],h,fun P μ x hx=>hx,by simp,by simp,by simp⟩
   ·cases h
  ·cases h
 ·rename_i ps rs vr hu;split at h
  ·exact⟨.xT,fun R' k'=>by simp[fK,hu],h,fun P μ x hx=>hx,by simp,by simp,by simp⟩
  ·rename_i g cs;exact⟨.fn g cs,fun R' k'=>by simp[fK,hu],h,fun P μ x hx=>hx,by simp,by simp,by simp⟩
  ·cases h
 ·rename_i ms hu;obtain⟨n,hn,hk⟩:=Option.bind_eq_some_iff.1 h;have hp:p=.Tm n:=by cases p<;>simp[Md]at hn;subst hn;rfl
  exact⟨.Tm n,fun R' k'=>by simp[fK,hu,hn],hk,fun P μ x hx=>hp▸hx,by simp,by simp,by simp⟩
 ·cases h
theorem Gk{v:V}{k:V→Option R}{r:R}(h:wN E t v k=some r):∃u,(∀(R':Type)(k':V→Option R'),wN E t v k'=k' u)∧k u=some r∧(∀(P:Program)(μ:Ro)(φ:Nat→aG)x,ai P μ φ v x→ai P μ φ u x)∧(∀id,u.has id=true→v.has id=true):=by
 unfold wN at h;split at h
 ·obtain⟨q,h1,h2,h3,_⟩:=jQ h;exact⟨.pv q,fun R' k'=>by simp[wN,h1],h2,fun P μ φ x hx=>by cases hx with|pv hp=>exact .pv (h3 _ _ _ hp),by simp⟩
 ·cases h
 ·rename_i h1 h2;split at h
  ·rename_i hu;refine⟨v,fun R' k'=>?_,h,fun _ _ _ _ hx=>hx,fun _ h=>h⟩;unfold wN;cases v<;>first|(simp only[hu,if_true];done)|exact absurd rfl (h1 _)|exact absurd rfl h2
  ·cases h
theorem tt{r:R}(h:fK E t p k=some r):∃d,E.P.underlying t=some d:=by
 unfold fK at h;cases hq:E.P.underlying t with
 |none=>simp[hq]at h
 |some d=>exact⟨d,rfl⟩
theorem Df{v:V}{k:V→Option R}{r:R}(h:wN E t v k=some r):∃d,E.P.underlying t=some d:=by
 unfold wN at h;split at h
 ·exact tt h
 ·cases h
 ·split at h
  ·rename_i hu;exact Option.isSome_iff_exists.1 hu
  ·cases h
end
end Go.Ab
set_option linter.unusedVariables false
namespace Go.Ab
open Go.RowKit (Below)
section
variable {P:Program} {G:Nat→Option (List PV)} {w0:bA} {μ:Ro} {φ:Nat→aG} {m:Mem} {w:World}
variable{t:TypeId}{d:TypeDesc}
theorem zj(h:P.underlying t=some d):(P.info? t).map (·.size)=some (aT P t):=by
 unfold Program.underlying at h;cases hi:P.info? t with
 |none=>simp[hi]at h
 |some i=>simp[aT,hi]
theorem A8(h:aF P t=true):∃d,P.underlying t=some d∧d.isRow=true:=by
 unfold aF at h;split at h
 ·rename_i fs hu;exact⟨_,hu,rfl⟩
 ·rename_i n e hu;exact⟨_,hu,rfl⟩
 ·cases h
theorem yo(hu:P.underlying t=some d):(isAgg t).run P w=.ok (aF P t) w:=by unfold isAgg;simp only[Sem.run_bind,run_underlying hu,Result.andThen_ok,aF,hu];cases d<;>rfl
theorem zk(hu:P.underlying t=some d):(sizeOf t).run P w=.ok (aT P t) w:=by
 have:=zj hu;cases hi:P.info? t with
 |none=>simp[hi]at this
 |some i=>simp[sizeOf,typeInfo,hi,aT]
variable{o:Nat}
theorem gn{b:Nat}{y:Value}(hu:P.underlying t=some d)(ha:aF P t=false)(hc:w.cell? ⟨b,o,none⟩=some y):(Instr.loadAt t (.pointer (some ⟨b,o,none⟩))).run P w=.ok y w:=by simp only[Instr.loadAt,Instr.sureAddr,loadVar,Sem.run_bind,Sem.run_pure,Result.andThen_ok,yo hu,ha];simp[load,Sem.run,hc]
theorem ou{b:Nat}{cs:List Value}(ha:aF P t=true)(hc:w.rangeAt b o cs)(hl:cs.length=aT P t):(Instr.loadAt t (.pointer (some ⟨b,o,none⟩))).run P w=.ok (.agg cs.toArray) w:=by obtain⟨d,hu,hd⟩:=A8 ha;exact run_loadAt_mid w b o t cs d hc hu hd (by rw[zj hu,hl])
theorem ay.cellAt(hM:ay P G w0 μ φ m w){b o:Nat}{x:Value}(h:cellAt μ b o=some x):w.cell? ⟨b,o,none⟩=some x:=by
 unfold Go.Ab.cellAt at h;split at h
 ·rename_i c t fz hb;simp[World.cell?,hM.ro _ _ hb,h]
 ·cases h
theorem dP{g:Nat}{c:Array Value}{T:TypeId}{fz:Nat×Nat}(h:w.heap[g]?=some (.cells c T fz)):w.cell? ⟨g,o,none⟩=c[o]?:=by simp[World.cell?,h]
theorem ep{T:Type}{l:List T}{n i:Nat}{x:T}(h:(l.take n)[i]?=some x):i<n∧l[i]?=some x:=by
 rw[List.getElem?_take]at h;split at h
 ·exact⟨by assumption,h⟩
 ·cases h
theorem dQ{T:Type}{l:List T}{n i:Nat}{x:T}(h:((l.drop o).take n)[i]?=some x):i<n∧l[o+i]?=some x:=by
 rw[List.getElem?_take]at h;split at h
 ·rw[List.getElem?_drop]at h;exact⟨by assumption,h⟩
 ·cases h
theorem ak.WK{cs:List PV}{b n:Nat}{X:Nat→Value}(hM:ay P G w0 μ φ m w)(h1:∀(i:Nat)p,cs[i]?=some p→Go.Ab.cellAt μ b (o+i)=some (X i))(h2:∀(i:Nat)p,cs[i]?=some p→ak P μ p (X i))(h3:∀i:Nat,i<cs.length→(X i).oneCell'=true)(hn:n≤cs.length):w.rangeAt b o ((List.range n).map X)∧ak P μ (.agg (cs.take n)) (.agg ((List.range n).map X).toArray):=by
 have hX:∀i x,((List.range n).map X)[i]?=some x→i<n∧x=X i:=by
  intro i x hx;have hi:i<n:=by have:=(List.getElem?_eq_some_iff.1 hx).1;simpa using this
  rw[List.getElem?_map,List.getElem?_range hi]at hx;simp at hx;exact⟨hi,hx.symm⟩
 refine⟨fun j v hv=>?_,.agg (by simp;omega) (fun i p x hi hx=>?_) (fun i x hx=>?_)⟩
 ·obtain⟨hj,rfl⟩:=hX j v hv;exact hM.cellAt (h1 j _ (List.getElem?_eq_getElem (by omega)))
 ·rw[List.getElem?_toArray]at hx;obtain⟨hj,rfl⟩:=hX i x hx;exact h2 i p (ep hi).2
 ·rw[List.getElem?_toArray]at hx;obtain⟨hj,rfl⟩:=hX i x hx;exact h3 i (by omega)
end
section
variable {R:Type} {E:Env}
def Quiet(v:V)(m:Mem):Prop:=∀id,v.has id=true→(m id).isSome=true
theorem gG{g:V→Option PV}{cs:List V}{ps:List PV}(h:oc g cs=some ps):ps.length=cs.length∧∀(i:Nat)p,ps[i]?=some p→∃v,cs[i]?=some v∧g v=some p:=by
 induction cs generalizing ps with
 |nil=>simp[oc]at h;subst h;simp
 |cons c r ih=>
  simp only[oc]at h;obtain⟨p,hp,h⟩:=Option.bind_eq_some_iff.1 h;obtain⟨ZH,l7,h⟩:=Option.bind_eq_some_iff.1 h;simp only[Option.some.injEq]at h;subst h;obtain⟨h1,h2⟩:=ih l7;refine⟨by simp[h1],fun i q hq=>?_⟩;cases i with
  |zero=>simp at hq;subst hq;exact⟨c,by simp,hp⟩
  |succ i=>simp at hq;simpa using h2 i q hq
variable{off:Nat}{t:TypeId}{e:PV}
theorem Dg{s:Nat}{k:V→Option R}{r:R}(h:qj E s t e off k=some r):∃v,(∀(R':Type)(k':V→Option R'),qj E s t e off k'=k' v)∧k v=some r∧(∀id,v.has id=false)∧∀(μ:Ro)(φ:Nat→aG)(w:World)(g o:Nat)(c:Array Value)(T:TypeId),w.heap[g]?=some (.cells c T (0,0))→e.cells.length=s→(∀(j:Nat)p x,e.cells[j]?=some p→c[o+j]?=some x→ak E.P μ p x)→(∀(i:Nat)(x:Value),i<o+s→c[i]?=some x→x.oneCell'=true)→o+s≤c.size→∃y,(Instr.loadAt t (.pointer (some ⟨g,o+off,none⟩))).run E.P w=.ok y w∧ai E.P μ φ v y:=by
 unfold qj at h;split at h
 ·rename_i ha;split at h
  ·rename_i hb;refine⟨_,fun R' k'=>by simp[qj,ha,hb],h,by simp,fun μ φ w g o c T hg hs hc h1 hl=>?_⟩;have hR:w.rangeAt g (o+off) ((c.toList.drop (o+off)).take (aT E.P t)):=fun j v hv=>by obtain⟨_,hv⟩:=dQ hv;rw[dP hg];simpa using hv
   refine⟨_,ou ha hR (by simp;omega),.pv (.agg (by simp[bm];omega) (fun i p x hi hx=>?_) (fun i x hx=>?_))⟩
   ·rw[List.getElem?_toArray]at hx;obtain⟨_,hx⟩:=dQ hx;rw[fL hs]at hi;obtain⟨_,hi⟩:=dQ hi;exact hc _ p x hi (by simpa[Nat.add_assoc]using hx)
   ·rw[List.getElem?_toArray]at hx;obtain⟨_,hx⟩:=dQ hx;have hx:c[o+off+i]?=some x:=by simpa using hx
    exact h1 _ x (by omega) hx
  ·cases h
 ·rename_i ha;have ha:aF E.P t=false:=by simpa using ha
  split at h
  ·rename_i p hp;obtain⟨q,h1,h2,h3,_⟩:=jQ h;obtain⟨d,hu⟩:=tt h;refine⟨.pv q,fun R' k'=>by simp[qj,ha,hp,h1],h2,by simp,fun μ φ w g o c T hg hs hc _ hl=>?_⟩;rw[fL hs]at hp;have NU:off<e.cells.length:=(List.getElem?_eq_some_iff.1 hp).1;have hx:c[o+off]?=some c[o+off]:=Array.getElem?_eq_getElem (by omega);exact⟨_,gn hu ha (by rw[dP hg];exact hx),.pv (h3 _ _ _ (hc off p _ hp hx))⟩
  ·cases h
variable{p:PV}
theorem NV{k:PV→Option R}{r:R}(h:fK E t p k=some r):p.isRow=false∧p≠.bad:=by
 cases p with
 |fQ s es=>exfalso;unfold fK at h;split at h<;>simp[asInt,asBool,bB,ab,asAgg,Md,dS]at h
 |bad=>exfalso;unfold fK at h;split at h<;>simp[asInt,asBool,bB,ab,asAgg,Md,dS]at h
 |_=>exact⟨rfl,by simp⟩
theorem Dh(h:cell e off=p)(hp:p≠.bad):e.cells[off]?=some p:=by
 unfold cell at h;rw[List.getD_eq_getElem?_getD]at h;cases he:e.cells[off]? with
 |none=>rw[he]at h;simp at h;exact absurd h.symm hp
 |some q=>rw[he]at h;simp at h;rw[h]
theorem Gl{s:Nat}{rs:List PV}(h:aY s p=some rs):p=.fQ s rs:=by
 unfold aY at h;split at h
 ·split at h
  ·rename_i e;subst e;simp only[Option.some.injEq]at h;subst h;rfl
  ·cases h
 ·cases h
variable{P:Program}{μ:Ro}{φ:Nat→aG}{id i:Nat}
theorem aV.cell{w:World}{sz:Nat}{et:TypeId}{es:List PV}(h:aV P μ φ w id sz et es){g:Nat}(hg:(φ id).g=some g)(he:es[i]?=some e)(hp:e.cells[off]?=some p):∃c x,w.heap[g]?=some (.cells c et (0,0))∧c[i*sz+off]?=some x∧ek P μ ((φ id).row i off) w p x∧x.oneCell'=true:=by
 obtain⟨a1,a2,a3,a4,a5,a6,a7⟩:=h;rw[hg]at a7;obtain⟨c,c1,c2,c3,c4,c5⟩:=a7;have hi:i<es.length:=(List.getElem?_eq_some_iff.1 he).1;have ho:off<sz:=by rw[←a5 i e he];exact(List.getElem?_eq_some_iff.1 hp).1
 have h1:(i+1)*sz≤es.length*sz:=Nat.mul_le_mul_right _ (by omega);have h2:es.length*sz≤(φ id).cap*sz:=Nat.mul_le_mul_right _ c3;rw[Nat.add_mul]at h1;have bt:i*sz+off<c.size:=by omega
 exact⟨c,c[i*sz+off],c1,Array.getElem?_eq_getElem bt,c4 i e off p _ he hp (Array.getElem?_eq_getElem bt),c5 (i*sz+off) _ (by omega) (Array.getElem?_eq_getElem bt)⟩
theorem aV.row{w:World}{sz:Nat}{et:TypeId}{es:List PV}(h:aV P μ φ w id sz et es){s:Nat}{rs:List PV}(he:es[i]?=some e)(hr:aY s (Go.Ab.cell e off)=some rs):∃g x,(φ id).g=some g∧w.cell? ⟨g,i*sz+off,none⟩=some x∧eL P μ ((φ id).row i off) w s rs x∧e.cells[off]?=some (.fQ s rs):=by
 have hp:=Dh (Gl hr) (by simp);cases hg:(φ id).g with
 |none=>obtain⟨a1,a2,a3,a4,a5,a6,a7⟩:=h;rw[hg]at a7;rw[a7.1]at he;simp at he
 |some g=>obtain⟨c,x,c1,c2,c3,_⟩:=h.cell hg he hp;exact⟨g,x,rfl,by rw[dP c1];exact c2,c3,hp⟩
theorem ai.WL{ν:Ro}{x:Value}(h:ai P μ (fun _=>((φ id).row i off).up) (.os 0) x):ai P ν φ (.tc id i off) x:=by
 cases h with
 |pB h=>exact .Eu h
 |os h=>exact .tc h
theorem ai.IQ{ν:Ro}{x:Value}(h:ai P μ φ (.tc id i off) x):ai P ν (fun _=>((φ id).row i off).up) (.os 0) x:=by
 cases h with
 |Eu h=>exact .pB h
 |tc h=>exact .os (id:=0) (φ:=fun _=>((φ id).row i off).up) h
theorem Gj{own:Bool}{a:V}{m:Mem}{k:V→bp→Option R}{r:R}(h:og E own t a m k=some r):∃v ft,(∀m2:Mem,(∀x∈ft,m2 x.2=m x.2)→∀(R':Type)(k':V→bp→Option R'),og E own t a m2 k'=k' v ft)∧k v ft=some r∧(∀x∈ft,x.1=false)∧∀(G:Nat→Option (List PV))(w0:bA)(μ:Ro)(φ:Nat→aG)(w:World)(x:Value),ay E.P G w0 μ φ m w→ai E.P μ φ a x→∃y,(Instr.loadAt t x).run E.P w=.ok y w∧ai E.P μ φ v y∧Quiet v m:=by
 unfold og at h;split at h
 ·rename_i cs;split at h
  ·rename_i ha;split at h
   ·rename_i hn;refine⟨_,_,fun m2 _ R' k'=>by simp[og,ha,hn],h,by simp,fun G w0 μ φ w x hM hx=>?_⟩;cases hx with
    |pv hp=>cases hp with
     |rp X h1 h2 h3=>obtain⟨hr,hv⟩:=ak.WK hM h1 h2 h3 hn;exact⟨_,ou ha hr (by simp),.pv hv,by simp[Quiet]⟩
   ·cases h
  ·rename_i ha;have ha:aF E.P t=false:=by simpa using ha
   obtain⟨p,CI,h⟩:=Option.bind_eq_some_iff.1 h;have ZI:cs[0]?=some p:=by rw[←List.head?_eq_getElem?];exact CI
   obtain⟨q,h1,h2,h3,_⟩:=jQ h;refine⟨_,_,fun m2 _ R' k'=>by simp[og,ha,CI,h1],h2,by simp,fun G w0 μ φ w x hM hx=>?_⟩;obtain⟨d,hu⟩:=tt h;cases hx with
   |pv hp=>cases hp with
    |rp X g1 g2 g3=>have hc:=hM.cellAt (g1 0 p ZI);exact⟨_,gn hu ha (by simpa using hc),.pv (h3 _ _ _ (g2 0 p ZI)),by simp[Quiet]⟩
 ·rename_i id off;split at h
  ·rename_i cs hm;split at h
   ·rename_i ha;split at h
    ·rename_i hn;refine⟨_,_,fun m2 cP R' k'=>by simp[og,ha,hn,cP (false,id) (by simp),hm],h,by simp,fun G w0 μ φ w x hM hx=>?_⟩;cases hx with
     | @op _ _ g hg=>
      obtain⟨g',c,T,bY,hh,hs,hv,h1,yp⟩:=hM.dL id _ hm;rw[hg]at bY;simp only[Option.some.injEq]at bY;subst bY;have hR:w.rangeAt g off ((c.toList.drop off).take (aT E.P t)):=fun j v hv=>by obtain⟨_,hv⟩:=dQ hv;rw[dP hh];simpa using hv
      refine⟨_,ou ha hR (by simp;omega),.agg (by simp;omega) (fun i p x hi hx=>?_) (fun i x hx=>?_),?_⟩
      ·rw[List.getElem?_toArray]at hx;obtain⟨_,hx⟩:=dQ hx;obtain⟨_,hi⟩:=dQ hi;exact hv _ p x hi (by simpa using hx)
      ·rw[List.getElem?_toArray]at hx;obtain⟨_,hx⟩:=dQ hx;exact h1 _ x (by simpa using hx)
      ·intro nE hid;simp only[V.has]at hid;obtain⟨v,hv,hh⟩:=cV.1 hid;exact hM.fl id cs nE hm (bN (List.mem_of_mem_drop (List.mem_of_mem_take hv)) hh)
    ·cases h
   ·rename_i ha;have ha:aF E.P t=false:=by simpa using ha
    split at h
    ·rename_i ps l7;obtain⟨p,CI,h⟩:=Option.bind_eq_some_iff.1 h;obtain⟨q,h1,h2,h3,_⟩:=jQ h;refine⟨_,_,fun m2 cP R' k'=>by simp[og,ha,cP (false,id) (by simp),hm,l7,CI,h1],h2,by simp,fun G w0 μ φ w x hM hx=>?_⟩;cases hx with
     | @op _ _ g hg=>
      obtain⟨g',c,T,bY,hh,hs,hvv,_⟩:=hM.dL id _ hm;rw[hg]at bY;simp only[Option.some.injEq]at bY;subst bY;obtain⟨f1,f2⟩:=gG l7;obtain⟨bt,ZI⟩:=List.getElem?_eq_some_iff.1 CI;have NU:off<cs.length:=by omega
      obtain⟨v,hv,lV⟩:=f2 off p CI;have hvp:v=.pv p:=by cases v<;>simp[pO]at lV;subst lV;rfl
      subst hvp;have hx:c[off]?=some c[off]:=Array.getElem?_eq_getElem (by omega);obtain⟨d,hu⟩:=tt h;have hr:=hvv off _ _ hv hx;cases hr with
      |pv hr=>exact⟨_,gn hu ha (by rw[dP hh];exact hx),.pv (h3 _ _ _ hr),by simp[Quiet]⟩
    ·rename_i Tn;split at h
     ·rename_i v hv;obtain⟨u,h1,h2,h3,h4⟩:=Gk h;refine⟨_,_,fun m2 cP R' k'=>by simp[og,ha,cP (false,id) (by simp),hm,Tn,hv,h1],h2,by simp,fun G w0 μ φ w x hM hx=>?_⟩;cases hx with
      | @op _ _ g hg=>obtain⟨g',c,T,bY,hh,hs,hvv,_⟩:=hM.dL id _ hm;rw[hg]at bY;simp only[Option.some.injEq]at bY;subst bY;have NU:off<cs.length:=(List.getElem?_eq_some_iff.1 hv).1;have hx:c[off]?=some c[off]:=Array.getElem?_eq_getElem (by omega);obtain⟨d,hu⟩:=Df h;refine⟨_,gn hu ha (by rw[dP hh];exact hx),h3 _ _ _ _ (hvv off v _ hv hx),fun nE hid=>?_⟩;exact hM.fl id cs nE hm (bN (List.mem_of_getElem? hv) (h4 nE hid))
     ·cases h
  ·cases h
 ·rename_i id i off;have key:∀(sz:Nat)(et:TypeId)(es:List PV),(m id=some (.arr sz et es)∨m id=some (.nP sz et es))→((es[i]?).bind fun e=>qj E sz t e off fun v=>k v [(false,id)])=some r→∃v,(∀(R':Type)(k':V→bp→Option R'),((es[i]?).bind fun e=>qj E sz t e off fun v=>k' v [(false,id)])=k' v [(false,id)])∧k v [(false,id)]=some r∧∀(G:Nat→Option (List PV))(w0:bA)(μ:Ro)(φ:Nat→aG)(w:World)(x:Value),ay E.P G w0 μ φ m w→ai E.P μ φ (.oe id i off) x→∃y,(Instr.loadAt t x).run E.P w=.ok y w∧ai E.P μ φ v y∧Quiet v m:=by
   intro sz et es hm hb;obtain⟨e,he,hb⟩:=Option.bind_eq_some_iff.1 hb;obtain⟨v,h1,h2,h3,h4⟩:=Dg hb;refine⟨v,fun R' k'=>by simp[he,h1],h2,fun G w0 μ φ w x hM hx=>?_⟩;have hA:aM E.P μ φ w id sz et es:=by
    rcases hm with hm|hm
    ·exact hM.dL id _ hm
    ·exact(hM.dL id _ hm).1
   cases hx with
   | @oe _ _ _ g hg=>
    obtain⟨a1,a2,a3,a4,a5,a6,a7⟩:=hA;rw[hg]at a7;obtain⟨c,c1,c2,c3,c4,c5⟩:=a7;have hi:i<es.length:=(List.getElem?_eq_some_iff.1 he).1;obtain⟨y,hy,hv⟩:=h4 μ φ w g (i*sz) c et c1 (a5 i e he) (fun j p x hj hx=>c4 i e j p x he hj hx) (fun i' x nd hx=>c5 i' x (by
     have:(i+1)*sz≤es.length*sz:=Nat.mul_le_mul_right _ (by omega);rw[Nat.add_mul]at this;omega) hx) (by
     have:(i+1)*sz≤(φ id).cap*sz:=Nat.mul_le_mul_right _ (by omega);rw[Nat.add_mul]at this;omega)
    rw[a2];exact⟨y,hy,hv,fun id hid=>by rw[h3]at hid;cases hid⟩
  split at h
  ·rename_i sz et es hm;obtain⟨v,h1,h2,h3⟩:=key sz et es (.inl hm) h;exact⟨v,_,fun m2 cP R' k'=>by have:=cP (false,id) (by simp);simp only at this;simp only[og,this,hm];exact h1 R' k',h2,by simp,h3⟩
  ·rename_i sz et es hm;obtain⟨v,h1,h2,h3⟩:=key sz et es (.inr hm) h;exact⟨v,_,fun m2 cP R' k'=>by have:=cP (false,id) (by simp);simp only at this;simp only[og,this,hm];exact h1 R' k',h2,by simp,h3⟩
  ·rename_i sz et es hm;split at h
   ·cases h
   ·rename_i ha;obtain⟨e,he,h⟩:=Option.bind_eq_some_iff.1 h;have Vs:aF E.P t=false:=by simpa using ha
    split at h
    ·rename_i ho;split at h
     ·rename_i AW hu;obtain⟨rs,hr,h⟩:=Option.bind_eq_some_iff.1 h;refine⟨_,_,fun m2 cP R' k'=>by have:=cP (false,id) (by simp);simp only at this;simp only[og,this,hm,if_neg ha,he,ho,hu,hr,Option.bind_some,if_true],h,by simp,fun G w0 μ φ w x hM hx=>?_⟩;have hN:aV E.P μ φ w id sz et es:=hM.dL id _ hm;obtain⟨g,y,hg,hc,iP,_⟩:=hN.row he hr;cases hx with
      |oe bY=>rw[hg]at bY;simp only[Option.some.injEq]at bY;subst bY;rw[hN.2.1];refine⟨y,gn hu Vs hc,.WL iP.2,fun j hj=>?_⟩;have:=Nat.eq_of_beq_eq_true hj;subst this;rw[hm];rfl
     ·cases h
    ·rename_i ho;obtain⟨q,h1,h2,h3,_⟩:=jQ h;obtain⟨ZJ,Vt⟩:=NV h;obtain⟨d,hu⟩:=tt h;refine⟨_,_,fun m2 cP R' k'=>by have:=cP (false,id) (by simp);simp only at this;simp only[og,this,hm,if_neg ha,he,ho,Option.bind_some,if_false,Bool.false_eq_true];exact h1 _ _,h2,by simp,fun G w0 μ φ w x hM hx=>?_⟩;have hN:aV E.P μ φ w id sz et es:=hM.dL id _ hm;cases hx with
     |oe hg=>obtain⟨c,y,c1,c2,c3,_⟩:=hN.cell hg he (Dh rfl Vt);rw[hN.2.1];exact⟨y,gn hu Vs (by rw[dP c1];exact c2),.pv (h3 _ _ _ (c3.Mj ZJ)),by simp[Quiet]⟩
  ·cases h
 ·rename_i id i off s j off2;split at h
  ·rename_i sz et es hm;obtain⟨e,he,h⟩:=Option.bind_eq_some_iff.1 h;obtain⟨rs,hr,h⟩:=Option.bind_eq_some_iff.1 h;obtain⟨q,hq,h⟩:=Option.bind_eq_some_iff.1 h;obtain⟨v,h1,h2,h3,h4⟩:=Dg h;refine⟨v,_,fun m2 cP R' k'=>by have:=cP (false,id) (by simp);simp only at this;simp only[og,this,hm,he,hr,hq,Option.bind_some];exact h1 R' _,h2,by simp,fun G w0 μ φ w x hM hx=>?_⟩;have hN:aV E.P μ φ w id sz et es:=hM.dL id _ hm;obtain⟨g,y,hg,hc,⟨⟨AW,hA⟩,hV⟩,_⟩:=hN.row he hr;cases hx with
   | @wL _ _ _ _ _ _ g' bY hs=>obtain⟨a1,a2,a3,a4,a5,a6,a7⟩:=hA;have hgu:((φ id).row i off).up.g=some g':=bY;rw[hgu]at a7;obtain⟨c,c1,c2,c3,c4,c5⟩:=a7;have hj:j<rs.length:=(List.getElem?_eq_some_iff.1 hq).1;have e1:(j+1)*s≤rs.length*s:=Nat.mul_le_mul_right _ (by omega);have e2:rs.length*s≤((φ id).row i off).up.cap*s:=Nat.mul_le_mul_right _ c3;have e3:((φ id).row i off).up.cap*s≤c.size:=c2;rw[Nat.add_mul]at e1;obtain⟨y,hy,hv⟩:=h4 μ φ w g' (j*s) c AW c1 (a5 j q hq) (fun l p x hl hx=>c4 j q l p x hq hl hx) (fun i' x nd hx=>c5 i' x (by omega) hx) (by omega);exact⟨y,hy,hv,fun id hid=>by rw[h3]at hid;cases hid⟩
  ·cases h
 ·cases h
end
end Go.Ab
set_option linter.unusedVariables false
namespace Go.Ab
open Go.RowKit (Below)
section
variable {R:Type} {E:Env}
variable{s t:TypeId}{j o:Nat}
theorem zl(h:wO E s j=some (o,t)):∃fs f,E.P.underlying s=some (.struct fs)∧fs[j]?=some f∧f.offset=o∧f.type=t∧aT E.P t≠0:=by
 unfold wO at h;split at h
 ·rename_i fs hu;split at h
  ·rename_i f hf;split at h
   ·cases h
   ·rename_i hz;simp only[Option.some.injEq,Prod.mk.injEq]at h;obtain⟨rfl,rfl⟩:=h;exact⟨fs,f,hu,hf,rfl,rfl,hz⟩
  ·cases h
 ·cases h
variable{P:Program}
theorem uK(h:aT P t≠0):∃i,P.info? t=some i∧i.size=aT P t:=by
 unfold aT at*;cases hi:P.info? t with
 |none=>simp[hi]at h
 |some i=>exact⟨i,rfl,by simp⟩
variable{w:World}
theorem ic(h:aT P t≠0):(sizeOf t).run P w=.ok (aT P t) w:=by obtain⟨i,hi,hs⟩:=uK h;simp[sizeOf,typeInfo,hi,hs]
theorem pQ{fs:Array Field}{f:Field}{b:Nat}(hu:P.underlying s=some (.struct fs))(hf:fs[j]?=some f)(hz:aT P f.type≠0):(Instr.fieldAt s (.pointer (some ⟨b,o,none⟩)) j).run P w=.ok (.pointer (some ⟨b,o+f.offset,none⟩)) w:=by simp[Instr.fieldAt,run_underlying hu,hf,Instr.sureAddr,fieldPlace,ic hz,hz,Addr.add_mid]
theorem kU{T:Type}{l:List T}{i:Nat}{x:T}(h:(l.drop o)[i]?=some x):l[o+i]?=some x:=by rw[List.getElem?_drop]at h;exact h
theorem ak.Ev{μ:Ro}{cs:List PV}{b:Nat}(n:Nat)(h:ak P μ (.rp cs) (.pointer (some ⟨b,o,none⟩))):ak P μ (.rp (cs.drop n)) (.pointer (some ⟨b,o+n,none⟩)):=by
 cases h with
 |rp X h1 h2 h3=>
  refine .rp (fun i=>X (n+i)) (fun i p hi=>?_) (fun i p hi=>h2 _ p (kU hi)) (fun i hi=>h3 _ ?_)
  ·have:=h1 _ p (kU hi);rw[Nat.add_assoc];exact this
  ·simp at hi;omega
variable{x:V}{k:V→Option R}{r:R}
theorem CO(h:iN E s x j k=some r):∃v,(∀(R':Type)(k':V→Option R'),iN E s x j k'=k' v)∧k v=some r∧(∀id,v.has id=x.has id)∧∀(μ:Ro)(φ:Nat→aG)(w:World)(y:Value),ai E.P μ φ x y→∃z,(Instr.fieldAt s y j).run E.P w=.ok z w∧ai E.P μ φ v z:=by
 unfold iN at h;split at h
 ·rename_i o t ho;obtain⟨fs,f,hu,hf,rfl,rfl,hz⟩:=zl ho;split at h
  ·rename_i cs;refine⟨_,fun R' k'=>by simp[iN,ho],h,by simp,fun μ φ w y hy=>?_⟩;cases hy with
   |pv hp=>cases hp with
    |rp X h1 h2 h3=>exact⟨_,pQ hu hf hz,.pv (ak.Ev _ (.rp X h1 h2 h3))⟩
  ·rename_i id off;refine⟨_,fun R' k'=>by simp[iN,ho],h,by simp[V.has],fun μ φ w y hy=>?_⟩;cases hy with
   |op hg=>exact⟨_,pQ hu hf hz,.op hg⟩
  ·rename_i id i off;refine⟨_,fun R' k'=>by simp[iN,ho],h,by simp[V.has],fun μ φ w y hy=>?_⟩;cases hy with
   |oe hg=>exact⟨_,pQ hu hf hz,by rw[Nat.add_assoc];exact .oe hg⟩
  ·refine⟨_,fun R' k'=>by simp[iN,ho],h,by simp[V.has],fun μ φ w y hy=>?_⟩;cases hy with
   |wL hg hs=>exact⟨_,pQ hu hf hz,by rw[Nat.add_assoc];exact .wL hg hs⟩
  ·cases h
 ·cases h
theorem gp{e:TypeId}{q:IntKind}{i:Int}{ad:Addr}{len cap:Nat}(hu:P.underlying t=some (.slice e))(hz:aT P e≠0)(h0:0≤i)(h1:i<(len:Int)):(Instr.indexAt t (.slice (some ad) len cap) (.int q i)).run P w=.ok (.pointer (some (ad.add (i.toNat*aT P e)))) w:=by simp[Instr.indexAt,asIntOf,run_underlying hu,h0,h1,ic hz]
theorem nf{e:TypeId}{n:Nat}{q:IntKind}{i:Int}{ad:Addr}(hu:P.underlying t=some (.array n e))(hz:aT P e≠0)(h0:0≤i)(h1:i<(n:Int)):(Instr.indexAt t (.pointer (some ad)) (.int q i)).run P w=.ok (.pointer (some (ad.add (i.toNat*aT P e)))) w:=by simp[Instr.indexAt,asIntOf,run_underlying hu,h0,h1,ic hz,Instr.sureAddr]
theorem TP{es:List PV}{i:Int}{p:PV}(h:ba es i=some p):0≤i∧es[i.toNat]?=some p∧i<(es.length:Int):=by
 unfold ba at h;split at h
 ·rename_i h0;have:=(List.getElem?_eq_some_iff.1 h).1;exact⟨h0,h,by omega⟩
 ·cases h
theorem ak.Ml{μ:Ro}{sz:Nat}{es:List PV}{x:Value}{n:Nat}{p:PV}(h:ak P μ (.rs sz es) x)(hp:es[n]?=some p):∃b o cap,x=.slice (some ⟨b,o,none⟩) es.length cap∧ak P μ (.rp (aL sz p)) (.pointer (some ⟨b,o+n*sz,none⟩)):=by
 cases h with
 |jr=>simp at hp
 |FV _=>simp at hp
 | @rs _ _ b o cap X h1 h2 h3 h4 h5 h6=>refine⟨b,o,cap,rfl,?_⟩;rw[fL (h3 n p hp)];exact .rp (X n) (fun i q hi=>h4 n p i q hp hi) (fun i q hi=>h5 n p i q hp hi) (fun i hi=>h6 n p i _ hp (List.getElem?_eq_getElem hi))
theorem CP{ix:V}{m:Mem}{k:V→bp→Option R}(h:dz E t x ix m k=some r):∃v ft,(∀m2:Mem,(∀x∈ft,m2 x.2=m x.2)→∀(R':Type)(k':V→bp→Option R'),dz E t x ix m2 k'=k' v ft)∧k v ft=some r∧(∀x∈ft,x.1=false)∧(∀id,v.has id=true→x.has id=true)∧∀(G:Nat→Option (List PV))(w0:bA)(μ:Ro)(φ:Nat→aG)(w:World)(y z:Value),ay E.P G w0 μ φ m w→ai E.P μ φ x y→ai E.P μ φ ix z→∃u,(Instr.indexAt t y z).run E.P w=.ok u w∧ai E.P μ φ v u:=by
 unfold dz at h;split at h
 ·rename_i q i;split at h
  ·rename_i e s es hu;split at h
   ·rename_i hs;obtain⟨p,hp,hk⟩:=Option.bind_eq_some_iff.1 h;refine⟨_,_,fun m2 _ R' k'=>by simp only[dz,hu];rw[if_pos hs,hp];rfl,hk,by simp,by simp,fun G w0 μ φ w y z hM hy hz=>?_⟩;obtain⟨h0,hp,hl⟩:=TP hp;cases hz with
    |pv hz=>cases hz with
     |int Ay=>
      cases hy with
      |pv hy=>obtain⟨b,o,cap,rfl,hr⟩:=hy.Ml hp;refine⟨_,gp hu (by omega) h0 hl,?_⟩;rw[Addr.add_mid,←hs.1];exact .pv hr
   ·cases h
  ·rename_i e id hu;have key:∀(s:Nat)(et:TypeId)(es:List PV),(m id=some (.arr s et es)∨m id=some (.nP s et es))→s=aT E.P e∧0<s→ag i es.length→∀(G:Nat→Option (List PV))(w0:bA)(μ:Ro)(φ:Nat→aG)(w:World)(y z:Value),ay E.P G w0 μ φ m w→ai E.P μ φ (.os id) y→ai E.P μ φ (.pv (.int q i)) z→∃u,(Instr.indexAt t y z).run E.P w=.ok u w∧ai E.P μ φ (.oe id i.toNat 0) u:=by
    intro s et es hm hs hr G w0 μ φ w y z hM hy hz;have hA:aM E.P μ φ w id s et es:=by
     rcases hm with hm|hm
     ·exact hM.dL id _ hm
     ·exact(hM.dL id _ hm).1
    obtain⟨a1,a2,a3,a4,a5,a6,a7⟩:=hA;cases hz with
    |pv hz=>cases hz with
     |int Ay=>
      cases hy with
      |pB hg=>rw[hg]at a7;rw[a7.1]at hr;simp[ag]at hr;omega
      | @os _ g hg=>refine⟨_,gp hu (by omega) hr.1 (by rw[a1];exact hr.2),?_⟩;rw[Addr.add_mid];have:=ai.oe (P:=E.P) (μ:=μ) (φ:=φ) (id:=id) (i:=i.toNat) (off:=0) hg;rw[a2,hs.1]at this;simpa using this
   split at h
   ·rename_i s et es hm;split at h
    ·rename_i hs;split at h
     ·rename_i hr;exact⟨_,_,fun m2 cP R' k'=>by have:=cP (false,id) (by simp);simp only at this;simp only[dz,hu,this,hm];rw[if_pos hs,if_pos hr],h,by simp,by simp[V.has],key s et es (.inl hm) hs hr⟩
     ·cases h
    ·cases h
   ·rename_i s et es hm;split at h
    ·rename_i hs;split at h
     ·rename_i hr;exact⟨_,_,fun m2 cP R' k'=>by have:=cP (false,id) (by simp);simp only at this;simp only[dz,hu,this,hm];rw[if_pos hs,if_pos hr],h,by simp,by simp[V.has],key s et es (.inr hm) hs hr⟩
     ·cases h
    ·cases h
   ·rename_i s et es hm;split at h
    ·rename_i hs;split at h
     ·rename_i hr;refine⟨_,_,fun m2 cP R' k'=>by have:=cP (false,id) (by simp);simp only at this;simp only[dz,hu,this,hm];rw[if_pos hs,if_pos hr],h,by simp,by simp[V.has],fun G w0 μ φ w y z hM hy hz=>?_⟩;have hA:aV E.P μ φ w id s et es:=hM.dL id _ hm;obtain⟨a1,a2,a3,a4,a5,a6,a7⟩:=hA;cases hz with
      |pv hz=>cases hz with
       |int Ay=>
        cases hy with
        |pB hg=>rw[hg]at a7;rw[a7.1]at hr;simp[ag]at hr;omega
        | @os _ g hg=>refine⟨_,gp hu (by omega) hr.1 (by rw[a1];exact hr.2),?_⟩;rw[Addr.add_mid];have:=ai.oe (P:=E.P) (μ:=μ) (φ:=φ) (id:=id) (i:=i.toNat) (off:=0) hg;rw[a2,hs.1]at this;simpa using this
     ·cases h
    ·cases h
   ·rename_i cs hm;split at h
    ·rename_i hs;refine⟨_,_,fun m2 cP R' k'=>by have:=cP (false,id) (by simp);simp only at this;simp only[dz,hu,this,hm];rw[if_pos hs],h,by simp,by simp[V.has],fun G w0 μ φ w y z hM hy hz=>?_⟩;obtain⟨g,c,T,hg,hh,kR,hv,qX,yp⟩:=hM.dL id _ hm;cases hz with
     |pv hz=>cases hz with
      |int Ay=>
       cases hy with
       |pB bY=>rw[hg]at bY;cases bY
       | @os _ g' bY=>refine⟨_,gp hu (by omega) hs.2.1 (by rw[yp];exact hs.2.2),?_⟩;rw[Addr.add_mid,hs.1];have:=ai.op (P:=E.P) (μ:=μ) (φ:=φ) (id:=id) (off:=i.toNat) bY;simpa using this
    ·cases h
   ·cases h
  ·rename_i e id i0 off hu;split at h
   ·rename_i s0 et0 es hm;split at h
    ·rename_i eu;obtain⟨e0,he,h⟩:=Option.bind_eq_some_iff.1 h;obtain⟨rs,Ae,h⟩:=Option.bind_eq_some_iff.1 h;split at h
     ·rename_i hr;refine⟨_,_,fun m2 cP R' k'=>by have:=cP (false,id) (by simp);simp only at this;simp only[dz,hu,this,hm];rw[if_pos eu,he];simp only[Option.bind_some,Ae];rw[if_pos hr],h,by simp,by simp[V.has],fun G w0 μ φ w y z hM hy hz=>?_⟩;have hN:aV E.P μ φ w id s0 et0 es:=hM.dL id _ hm;obtain⟨_,_,_,_,⟨⟨AW,hA⟩,_⟩,_⟩:=hN.row he Ae;obtain⟨a1,a2,a3,a4,a5,a6,a7⟩:=hA;cases hz with
      |pv hz=>cases hz with
       |int Ay=>
        cases hy with
        |Eu hg=>have bY:((φ id).row i0 off).up.g=none:=hg;simp only[bY]at a7;rw[a7.1]at hr;simp[ag]at hr;omega
        | @tc _ _ _ g hg=>have a1':((φ id).row i0 off).len=rs.length:=a1;refine⟨_,gp hu (by omega) hr.1 (by rw[a1'];exact hr.2),?_⟩;rw[Addr.add_mid];have:=ai.wL (P:=E.P) (μ:=μ) (φ:=φ) (id:=id) (i:=i0) (off:=off) (s:=aT E.P e) (j:=i.toNat) (off2:=0) hg a2;simpa using this
     ·cases h
    ·cases h
   ·cases h
  ·rename_i e id lo len hu;have key:∀(s:Nat)(et:TypeId)(es:List PV),(m id=some (.arr s et es)∨m id=some (.nP s et es))→s=aT E.P e∧0<s→ag i len→∀(G:Nat→Option (List PV))(w0:bA)(μ:Ro)(φ:Nat→aG)(w:World)(y z:Value),ay E.P G w0 μ φ m w→ai E.P μ φ (.fj id lo len) y→ai E.P μ φ (.pv (.int q i)) z→∃u,(Instr.indexAt t y z).run E.P w=.ok u w∧ai E.P μ φ (.oe id (lo+i.toNat) 0) u:=by
    intro s et es hm hs hr G w0 μ φ w y z hM hy hz;have hA:aM E.P μ φ w id s et es:=by
     rcases hm with hm|hm
     ·exact hM.dL id _ hm
     ·exact(hM.dL id _ hm).1
    obtain⟨a1,a2,a3,a4,a5,a6,a7⟩:=hA;cases hz with
    |pv hz=>cases hz with
     |int Ay=>
      cases hy with
      |ot hg=>simp[ag]at hr;omega
      | @fj _ _ _ Af g ad hg hl ha Vu CQ=>
       have ha:=ha.resolve_right fun hh=>by have:=hr.1;have:=hr.2;omega
       subst ha;refine⟨_,gp hu (by omega) hr.1 hr.2,?_⟩;rw[Addr.add_mid];have:=ai.oe (P:=E.P) (μ:=μ) (φ:=φ) (id:=id) (i:=lo+i.toNat) (off:=0) hg;rw[a2,hs.1]at this;rw[a2,hs.1];simpa[Nat.add_mul]using this
   split at h
   ·rename_i s et es hm;split at h
    ·rename_i hs;split at h
     ·rename_i hr;exact⟨_,_,fun m2 cP R' k'=>by have:=cP (false,id) (by simp);simp only at this;simp only[dz,hu,this,hm];rw[if_pos hs,if_pos hr],h,by simp,by simp[V.has],key s et es (.inl hm) hs hr⟩
     ·cases h
    ·cases h
   ·rename_i s et es hm;split at h
    ·rename_i hs;split at h
     ·rename_i hr;exact⟨_,_,fun m2 cP R' k'=>by have:=cP (false,id) (by simp);simp only at this;simp only[dz,hu,this,hm];rw[if_pos hs,if_pos hr],h,by simp,by simp[V.has],key s et es (.inr hm) hs hr⟩
     ·cases h
    ·cases h
   ·cases h
  ·rename_i n e id off hu;split at h
   ·rename_i hr;refine⟨_,_,fun m2 _ R' k'=>by simp only[dz,hu];rw[if_pos hr],h,by simp,by simp[V.has],fun G w0 μ φ w y z hM hy hz=>?_⟩;cases hz with
    |pv hz=>cases hz with
     |int Ay=>
      cases hy with
      |op hg=>exact⟨_,nf hu (by omega) hr.1.1 hr.1.2,by rw[Addr.add_mid];exact .op hg⟩
   ·cases h
  ·rename_i n e cs hu;split at h
   ·rename_i hr;refine⟨_,_,fun m2 _ R' k'=>by simp only[dz,hu];rw[if_pos hr],h,by simp,by simp,fun G w0 μ φ w y z hM hy hz=>?_⟩;cases hz with
    |pv hz=>cases hz with
     |int Ay=>
      cases hy with
      |pv hy=>cases hy with
       |rp X h1 h2 h3=>exact⟨_,nf hu (by omega) hr.1.1 hr.1.2,by rw[Addr.add_mid];exact .pv (ak.Ev _ (.rp X h1 h2 h3))⟩
   ·cases h
  ·rename_i n e id j off hu;split at h
   ·rename_i hr;refine⟨_,_,fun m2 _ R' k'=>by simp only[dz,hu];rw[if_pos hr],h,by simp,by simp[V.has],fun G w0 μ φ w y z hM hy hz=>?_⟩;cases hz with
    |pv hz=>cases hz with
     |int Ay=>
      cases hy with
      |oe hg=>exact⟨_,nf hu (by omega) hr.1.1 hr.1.2,by rw[Addr.add_mid,Nat.add_assoc];exact .oe hg⟩
   ·cases h
  ·cases h
 ·cases h
theorem mF{cs:List V}(h:od x=some cs):(∀id,cr id cs=true→x.has id=true)∧∀(P:Program)(μ:Ro)(φ:Nat→aG)y,ai P μ φ x y→∃xs:Array Value,y=.agg xs∧cs.length=xs.size∧(∀(i:Nat)p x,cs[i]?=some p→xs[i]?=some x→ai P μ φ p x)∧(∀(i:Nat)(x:Value),xs[i]?=some x→x.oneCell'=true):=by
 unfold od at h;split at h
 ·simp only[Option.some.injEq]at h;subst h;refine⟨fun id hid=>(by rw[Mk]at hid;cases hid),fun P μ φ y hy=>?_⟩;cases hy with
  |pv hy=>cases hy with
   |agg h1 h2 h3=>refine⟨_,rfl,by simpa using h1,fun i p x hi hx=>?_,h3⟩;simp only[List.getElem?_map,Option.map_eq_some_iff]at hi;obtain⟨q,hq,rfl⟩:=hi;exact .pv (h2 i q x hq hx)
 ·simp only[Option.some.injEq]at h;subst h;refine⟨fun id hid=>by simpa[V.has]using hid,fun P μ φ y hy=>?_⟩;cases hy with
  |agg h1 h2 h3=>exact⟨_,rfl,h1,h2,h3⟩
 ·cases h
variable{xs:Array Value}{off:Nat}
theorem wU(ha:aF P t=true):(part t xs off).run P w=.ok (.agg (xs.extract off (off+aT P t))) w:=by obtain⟨d,hu,_⟩:=A8 ha;simp[part,yo hu,ha,zk hu]
theorem wV{d:TypeDesc}{y:Value}(hu:P.underlying t=some d)(ha:aF P t=false)(hy:xs[off]?=some y):(part t xs off).run P w=.ok y w:=by simp[part,yo hu,ha,hy]
theorem Gm{cs:List V}(h:AS E t cs off k=some r):∃v,(∀(R':Type)(k':V→Option R'),AS E t cs off k'=k' v)∧k v=some r∧(∀id,v.has id=true→cr id cs=true)∧∀(μ:Ro)(φ:Nat→aG)(w:World)(xs:Array Value),cs.length=xs.size→(∀(i:Nat)p x,cs[i]?=some p→xs[i]?=some x→ai E.P μ φ p x)→(∀(i:Nat)(x:Value),xs[i]?=some x→x.oneCell'=true)→∃z,(part t xs off).run E.P w=.ok z w∧ai E.P μ φ v z:=by
 unfold AS at h;split at h
 ·rename_i ha;split at h
  ·rename_i hn;refine⟨_,fun R' k'=>by simp[AS,ha,hn],h,fun id hid=>?_,fun μ φ w xs h1 h2 h3=>⟨_,wU ha,?_⟩⟩
   ·simp only[V.has]at hid;obtain⟨v,hv,hh⟩:=cV.1 hid;exact bN (List.mem_of_mem_drop (List.mem_of_mem_take hv)) hh
   ·refine .agg (by simp;omega) (fun i p x hi hx=>?_) (fun i x hx=>?_)
    ·obtain⟨_,hi⟩:=dQ hi;rw[Array.getElem?_extract]at hx;split at hx
     ·exact h2 _ p x hi hx
     ·cases hx
    ·rw[Array.getElem?_extract]at hx;split at hx
     ·exact h3 _ x hx
     ·cases hx
  ·cases h
 ·rename_i ha;have ha:aF E.P t=false:=by simpa using ha
  split at h
  ·rename_i v hv;obtain⟨u,h1,h2,h3,h4⟩:=Gk h;obtain⟨d,hu⟩:=Df h;refine⟨u,fun R' k'=>by simp[AS,ha,hv,h1],h2,fun id hid=>bN (List.mem_of_getElem? hv) (h4 id hid),fun μ φ w xs g1 g2 g3=>?_⟩;have bt:off<cs.length:=(List.getElem?_eq_some_iff.1 hv).1;have hx:xs[off]?=some xs[off]:=Array.getElem?_eq_getElem (by omega);exact⟨_,wV hu ha hx,h3 _ _ _ _ (g2 off v _ hv hx)⟩
  ·cases h
theorem NW(h:AU E s x j k=some r):∃v,(∀(R':Type)(k':V→Option R'),AU E s x j k'=k' v)∧k v=some r∧(∀id,v.has id=true→x.has id=true)∧∀(μ:Ro)(φ:Nat→aG)(w:World)(y:Value),ai E.P μ φ x y→∃z,(Instr.field s y j).run E.P w=.ok z w∧ai E.P μ φ v z:=by
 unfold AU at h;split at h
 ·rename_i o t cs ho hc;obtain⟨fs,f,hu,hf,rfl,rfl,hz⟩:=zl ho;obtain⟨v,h1,h2,h3,h4⟩:=Gm h;obtain⟨c1,c2⟩:=mF hc;refine⟨v,fun R' k'=>by simp[AU,ho,hc,h1],h2,fun id hid=>c1 id (h3 id hid),fun μ φ w y hy=>?_⟩;obtain⟨xs,rfl,g1,g2,g3⟩:=c2 _ _ _ _ hy;obtain⟨z,hz,hv⟩:=h4 μ φ w xs g1 g2 g3;exact⟨z,by simp[Instr.field,run_underlying hu,hf,Go.asAgg,hz],hv⟩
 ·cases h
theorem wf_u8(b:UInt8):(Lit.int .u8 b.toNat).wf=true:=by rw[rW];have:=b.toNat_lt;simp[IntKind.min,IntKind.max,IntKind.signed,IntKind.bits];omega
theorem NX{ix:V}(h:xZ E t x ix k=some r):∃v,(∀(R':Type)(k':V→Option R'),xZ E t x ix k'=k' v)∧k v=some r∧(∀id,v.has id=true→x.has id=true)∧∀(μ:Ro)(φ:Nat→aG)(w:World)(y z:Value),ai E.P μ φ x y→ai E.P μ φ ix z→∃u,(Instr.index t y z).run E.P w=.ok u w∧ai E.P μ φ v u:=by
 unfold xZ at h;split at h
 ·rename_i q i;split at h
  ·rename_i s hu;obtain⟨b,hb,hk⟩:=Option.bind_eq_some_iff.1 h;refine⟨_,fun R' k'=>by simp[xZ,hu,hb],hk,by simp,fun μ φ w y z hy hz=>?_⟩;cases hz with
   |pv hz=>cases hz with
    |int Ay=>
     cases hy with
     |pv hy=>cases hy with
      |str hl=>
       unfold NO at hb;split at hb
       ·rename_i h0;have bt:=(List.getElem?_eq_some_iff.1 hb).1;have fR:(⟨s.toArray⟩:ByteArray)[i.toNat]?=some b:=by
         rw[getElem?_def];have:i.toNat<(⟨s.toArray⟩:ByteArray).size:=by simpa[ByteArray.size]using bt
         rw[dif_pos this];have e:=(List.getElem?_eq_some_iff.1 hb).2;simp only[Option.some.injEq];rw[←e];rfl
        refine⟨_,?_,.pv (.int (wf_u8 b))⟩;simp[Instr.index,asIntOf,run_underlying hu,h0,fR]
       ·cases hb
  ·rename_i n et hu;split at h
   ·rename_i cs hc;split at h
    ·rename_i hn;obtain⟨v,h1,h2,h3,h4⟩:=Gm h;obtain⟨c1,c2⟩:=mF hc;refine⟨v,fun R' k'=>by simp only[xZ,hu,hc];rw[if_pos hn,h1],h2,fun id hid=>c1 id (h3 id hid),fun μ φ w y z hy hz=>?_⟩;obtain⟨xs,rfl,g1,g2,g3⟩:=c2 _ _ _ _ hy;obtain⟨u,hu1,hv⟩:=h4 μ φ w xs g1 g2 g3;cases hz with
     |pv hz=>cases hz with
      |int Ay=>refine⟨u,?_,hv⟩;have hr:=hn.1;unfold ag at hr;simp[Instr.index,asIntOf,run_underlying hu,hr.1,hr.2,ic (show aT E.P et≠0 by omega),hu1]
    ·cases h
   ·cases h
  ·cases h
 ·cases h
end
end Go.Ab
set_option linter.unusedVariables false
namespace Go.Ab
open Go.RowKit (Below)
section
variable {R:Type} {E:Env}
theorem A9(s:Bytes):(⟨s.toArray⟩:ByteArray).size=s.length:=by show s.toArray.size=_;simp
theorem Ba{n:Nat}(h:n≤maxLen):(Lit.int .i64 (n:Int)).wf=true:=by rw[rW];simp only[maxLen]at h;simp[IntKind.min,IntKind.max,IntKind.signed,IntKind.bits];omega
variable{P:Program}{μ:Ro}{sz:Nat}{es:List PV}
theorem WM{x:Value}(h:ak P μ (.rs sz es) x):∃a cap,x=.slice a es.length cap∧es.length≤maxLen:=by
 cases h with
 |jr=>exact⟨none,0,rfl,by simp⟩
 | @FV _ cap a h=>exact⟨some a,cap,rfl,by simp⟩
 |rs X h1 h2=>exact⟨_,_,rfl,by omega⟩
variable{φ:Nat→aG}{m:Mem}{w:World}
theorem ay.arr{G:Nat→Option (List PV)}{w0:bA}(hM:ay P G w0 μ φ m w){id s:Nat}{et:TypeId}(hm:m id=some (.arr s et es)∨m id=some (.nP s et es)):aM P μ φ w id s et es:=by
 rcases hm with hm|hm
 ·exact hM.dL id _ hm
 ·exact(hM.dL id _ hm).1
theorem aM.mG{id s:Nat}{et:TypeId}(h:aM P μ φ w id s et es):es.length≤(φ id).cap∧(φ id).cap≤maxLen:=by
 obtain⟨a1,a2,a3,a4,a5,a6,a7⟩:=h;refine⟨?_,a6⟩;split at a7
 ·rw[a7.1,a7.2];simp
 ·obtain⟨c,_,_,c3,_⟩:=a7;exact c3
variable{x:V}{k:Nat→bp→Option R}{r:R}
theorem TQ(h:Ad m x k=some r):∃n ft,(∀m2:Mem,(∀x∈ft,m2 x.2=m x.2)→∀(R':Type)(k':Nat→bp→Option R'),Ad m2 x k'=k' n ft)∧k n ft=some r∧(∀x∈ft,x.1=false)∧∀(P:Program)(G:Nat→Option (List PV))(w0:bA)(μ:Ro)(φ:Nat→aG)(w:World)(y:Value),ay P G w0 μ φ m w→ai P μ φ x y→(∀id,x.has id=true→(m id).isSome=true)→n≤maxLen∧∃a cap,y=.slice a n cap:=by
 unfold Ad at h;split at h
 ·refine⟨_,_,fun m2 _ R' k'=>by simp[Ad],h,by simp,fun P G w0 μ φ w y hM hy _=>?_⟩;cases hy with
  |pv hy=>obtain⟨a,cap,rfl,hl⟩:=WM hy;exact⟨hl,_,_,rfl⟩
 ·refine⟨_,_,fun m2 _ R' k'=>by simp[Ad],h,by simp,fun P G w0 μ φ w y hM hy _=>?_⟩;cases hy;exact⟨by simp,_,_,rfl⟩
 ·rename_i id lo len;have key:∀(s:Nat)(et:TypeId)(es:List PV),(m id=some (.arr s et es)∨m id=some (.nP s et es))→∀(P:Program)(G:Nat→Option (List PV))(w0:bA)(μ:Ro)(φ:Nat→aG)(w:World)(y:Value),ay P G w0 μ φ m w→ai P μ φ (.fj id lo len) y→len≤maxLen∧∃a cap,y=.slice a len cap:=by
   intro s et es hm P G w0 μ φ w y hM hy;have hA:=hM.arr hm;have hl:=hA.mG;cases hy with
   |ot=>exact⟨by simp,_,_,rfl⟩
   |fj hg Iy ha=>have:=hA.1;exact⟨by omega,_,_,rfl⟩
  split at h
  ·rename_i s et es hm;exact⟨_,_,fun m2 cP R' k'=>by have:=cP (false,id) (by simp);simp only at this;simp[Ad,this,hm],h,by simp,fun P G w0 μ φ w y hM hy _=>key s et es (.inl hm) P G w0 μ φ w y hM hy⟩
  ·rename_i s et es hm;exact⟨_,_,fun m2 cP R' k'=>by have:=cP (false,id) (by simp);simp only at this;simp[Ad,this,hm],h,by simp,fun P G w0 μ φ w y hM hy _=>key s et es (.inr hm) P G w0 μ φ w y hM hy⟩
  ·cases h
 ·rename_i id;split at h
  ·rename_i s et es hm;refine⟨_,_,fun m2 cP R' k'=>by have:=cP (false,id) (by simp);simp only at this;simp[Ad,this,hm],h,by simp,fun P G w0 μ φ w y hM hy _=>?_⟩;have hA:=hM.arr (.inl hm);have hl:=hA.mG;obtain⟨a1,a2,a3,a4,a5,a6,a7⟩:=hA;refine⟨by omega,?_⟩;cases hy with
   |pB hg=>rw[hg]at a7;simp only[a7.1];exact⟨_,_,rfl⟩
   |os hg=>rw[a1];exact⟨_,_,rfl⟩
  ·rename_i s et es hm;refine⟨_,_,fun m2 cP R' k'=>by have:=cP (false,id) (by simp);simp only at this;simp[Ad,this,hm],h,by simp,fun P G w0 μ φ w y hM hy _=>?_⟩;have hA:=hM.arr (.inr hm);have hl:=hA.mG;obtain⟨a1,a2,a3,a4,a5,a6,a7⟩:=hA;refine⟨by omega,?_⟩;cases hy with
   |pB hg=>rw[hg]at a7;simp only[a7.1];exact⟨_,_,rfl⟩
   |os hg=>rw[a1];exact⟨_,_,rfl⟩
  ·rename_i s et es hm;refine⟨_,_,fun m2 cP R' k'=>by have:=cP (false,id) (by simp);simp only at this;simp[Ad,this,hm],h,by simp,fun P G w0 μ φ w y hM hy _=>?_⟩;have hA:aV P μ φ w id s et es:=hM.dL id _ hm;obtain⟨a1,a2,a3,a4,a5,a6,a7⟩:=hA;have hl:es.length≤(φ id).cap:=by
    split at a7
    ·rw[a7.1];simp
    ·obtain⟨c,_,_,c3,_⟩:=a7;exact c3
   refine⟨by omega,?_⟩;cases hy with
   |pB hg=>rw[hg]at a7;simp only[a7.1];exact⟨_,_,rfl⟩
   |os hg=>rw[a1];exact⟨_,_,rfl⟩
  ·rename_i cs hm;split at h
   ·rename_i hlen;refine⟨_,_,fun m2 cP R' k'=>by have:=cP (false,id) (by simp);simp only at this;simp[Ad,this,hm,hlen],h,by simp,fun P G w0 μ φ w y hM hy _=>?_⟩;obtain⟨g,c,T,hg,hh,hs,hv,qX,yp⟩:=hM.dL id _ hm;refine⟨hlen,?_⟩;cases hy with
    |pB bY=>rw[hg]at bY;cases bY
    |os bY=>rw[yp];exact⟨_,_,rfl⟩
   ·cases h
  ·cases h
 ·cases h
theorem TR(h:NQ sz m x k=some r):∃n ft,(∀m2:Mem,(∀x∈ft,m2 x.2=m x.2)→∀(R':Type)(k':Nat→bp→Option R'),NQ sz m2 x k'=k' n ft)∧k n ft=some r∧(∀x∈ft,x.1=false)∧∀(P:Program)(G:Nat→Option (List PV))(w0:bA)(μ:Ro)(φ:Nat→aG)(w:World)(y:Value),ay P G w0 μ φ m w→ai P μ φ x y→(∀id,x.has id=true→(m id).isSome=true)→n≤maxLen∧∃a cap,y=.slice a n cap:=by
 unfold NQ at h;split at h
 ·rename_i id i off;split at h
  ·rename_i s et es hm;obtain⟨e,he,h⟩:=Option.bind_eq_some_iff.1 h;obtain⟨rs,hr,h⟩:=Option.bind_eq_some_iff.1 h;refine⟨_,_,fun m2 cP R' k'=>by have:=cP (false,id) (by simp);simp only at this;simp[NQ,this,hm,he,hr],h,by simp,fun P G w0 μ φ w y hM hy _=>?_⟩;have hN:aV P μ φ w id s et es:=hM.dL id _ hm;obtain⟨_,_,_,_,⟨⟨AW,hA⟩,_⟩,_⟩:=hN.row he hr;have hl:=hA.mG;have a1:=hA.1;refine⟨by omega,?_⟩;have hy:=hy.IQ (ν:=μ);cases hy with
   |pB hg=>have a7:=hA.2.2.2.2.2.2;simp only[hg]at a7;simp only[a7.1];exact⟨_,_,rfl⟩
   |os hg=>rw[a1];exact⟨_,_,rfl⟩
  ·cases h
 ·rename_i cR;obtain⟨n,ft,h1,h2,h3,h4⟩:=TQ h;refine⟨n,ft,fun m2 cP R' k'=>?_,h2,h3,h4⟩;unfold NQ;split
  ·exact absurd rfl (cR _ _ _)
  ·exact h1 m2 cP R' k'
theorem TS(h:NR m x k=some r):∃n ft,(∀m2:Mem,(∀x∈ft,m2 x.2=m x.2)→∀(R':Type)(k':Nat→bp→Option R'),NR m2 x k'=k' n ft)∧k n ft=some r∧(∀x∈ft,x.1=false)∧n≤maxLen∧∀(P:Program)(G:Nat→Option (List PV))(w0:bA)(μ:Ro)(φ:Nat→aG)(w:World)(y:Value)(t kt et ty:TypeId),P.underlying t=some (.map kt et)→ay P G w0 μ φ m w→ai P μ φ x y→(Builtin.len_ #[t] ty #[y]).run P w=.ok (.int .i64 n) w:=by
 unfold NR at h;split at h
 ·rename_i id;split at h
  ·rename_i kt es hm;split at h
   ·rename_i hl;refine⟨_,_,fun m2 cP R' k'=>by have:=cP (false,id) (by simp);simp only at this;simp[NR,this,hm,hl],h,by simp,hl,fun P G w0 μ φ w y t kt et ty hu hM hy=>?_⟩;cases hy with
    | @om _ g hg=>obtain⟨g',en,clock,kk,bY,hh,hs,_⟩:=hM.dL id _ hm;rw[hg]at bY;simp only[Option.some.injEq]at bY;subst bY;simp[Builtin.len_,run_underlying hu,getObj,Sem.run,hh,goInt,hs]
   ·cases h
  ·cases h
 ·refine⟨_,_,fun m2 _ R' k'=>by simp[NR],h,by simp,by simp,fun P G w0 μ φ w y t kt et ty hu hM hy=>?_⟩;cases hy with
  |pv hy=>cases hy;simp[Builtin.len_,run_underlying hu,goInt]
 ·cases h
variable{t:TypeId}
theorem TT{k:V→bp→Option R}(h:F8 E t x m k=some r):∃v ft,(∀m2:Mem,(∀x∈ft,m2 x.2=m x.2)→∀(R':Type)(k':V→bp→Option R'),F8 E t x m2 k'=k' v ft)∧k v ft=some r∧(∀x∈ft,x.1=false)∧(∀id,v.has id=false)∧∀(G:Nat→Option (List PV))(w0:bA)(μ:Ro)(φ:Nat→aG)(w:World)(y:Value)(ty:TypeId),ay E.P G w0 μ φ m w→ai E.P μ φ x y→(∀id,x.has id=true→(m id).isSome=true)→∃z,(Builtin.len_ #[t] ty #[y]).run E.P w=.ok z w∧ai E.P μ φ v z:=by
 unfold F8 at h;split at h
 ·rename_i n e hu;split at h
  ·rename_i hn;exact⟨_,_,fun m2 _ R' k'=>by simp[F8,hu,hn],h,by simp,by simp,fun G w0 μ φ w y ty hM hy _=>⟨_,by simp[Builtin.len_,run_underlying hu,goInt],.pv (.int (Ba hn))⟩⟩
  ·cases h
 ·rename_i hu;split at h
  ·refine⟨_,_,fun m2 _ R' k'=>by simp[F8,hu],h,by simp,by simp,fun G w0 μ φ w y ty hM hy _=>?_⟩;cases hy with
   |pv hy=>cases hy with
    | @str s hl=>exact⟨_,by simp[Builtin.len_,run_underlying hu,goInt,A9],.pv (.int (Ba hl))⟩
  ·cases h
 ·rename_i e hu;obtain⟨n,ft,h1,h2,h3,h4⟩:=TR h;refine⟨_,ft,fun m2 cP R' k'=>by simp only[F8,hu];rw[h1 m2 cP],h2,h3,by simp,fun G w0 μ φ w y ty hM hy hq=>?_⟩;obtain⟨hl,a,cap,rfl⟩:=h4 _ _ _ _ _ _ _ hM hy hq;exact⟨_,by simp[Builtin.len_,run_underlying hu,goInt],.pv (.int (Ba hl))⟩
 ·rename_i kt et hu;obtain⟨n,ft,h1,h2,h3,hl,h4⟩:=TS h;refine⟨_,ft,fun m2 cP R' k'=>by simp only[F8,hu];rw[h1 m2 cP],h2,h3,by simp,fun G w0 μ φ w y ty hM hy hq=>?_⟩;exact⟨_,h4 _ _ _ _ _ _ _ _ _ _ _ hu hM hy,.pv (.int (Ba hl))⟩
 ·cases h
theorem Bb{d i:Int}{v:Option V}(h:iw d v=some i):(v=none∧i=d)∨∃q,v=some (.pv (.int q i)):=by
 unfold iw at h;split at h
 ·simp only[Option.some.injEq]at h;exact .inl ⟨rfl,h.symm⟩
 ·simp only[Option.some.injEq]at h;subst h;exact .inr ⟨_,rfl⟩
 ·cases h
theorem run_sliceBound{P:Program}{w:World}{q:IntKind}{i:Int}{y:Nat}{code:BoundsCode}(h0:0≤i)(h1:i≤(y:Int)):(Instr.sliceBound (.int q i) y code).run P w=.ok i.toNat w:=by simp[Instr.sliceBound,asIntOf,h0,h1]
variable{Bc nd:Option Value}
theorem jR{isS:Bool}{len cap:Nat}{l h:Int}{lo hi:Option V}(hl:iw 0 lo=some l)(hh:iw len hi=some h)(rl:∀v,lo=some v→∃y,Bc=some y∧ai P μ φ v y)(rl0:lo=none→Bc=none)(rh:∀v,hi=some v→∃y,nd=some y∧ai P μ φ v y)(rh0:hi=none→nd=none)(b0:0≤l)(b1:l≤h)(b2:h≤(len:Int))(b3:len≤cap):(Instr.sliceBounds isS len cap Bc nd none).run P w=.ok (l.toNat,h.toNat,cap) w:=by
 have e1:∃y,(nd=none∧h=len)∨(nd=some y∧∃q,y=.int q h):=by
  rcases Bb hh with⟨rfl,rfl⟩|⟨q,rfl⟩
  ·exact⟨undef,.inl ⟨rh0 rfl,rfl⟩⟩
  ·obtain⟨y,rfl,hy⟩:=rh _ rfl;cases hy with
   |pv hy=>cases hy with
    |int hw=>exact⟨_,.inr ⟨rfl,q,rfl⟩⟩
 have e2:∃y,(Bc=none∧l=0)∨(Bc=some y∧∃q,y=.int q l):=by
  rcases Bb hl with⟨rfl,rfl⟩|⟨q,rfl⟩
  ·exact⟨undef,.inl ⟨rl0 rfl,rfl⟩⟩
  ·obtain⟨y,rfl,hy⟩:=rl _ rfl;cases hy with
   |pv hy=>cases hy with
    |int hw=>exact⟨_,.inr ⟨rfl,q,rfl⟩⟩
 clear rl rl0 rh rh0 hl hh;obtain⟨y,⟨rfl,rfl⟩|⟨rfl,q,rfl⟩⟩:=e1<;>obtain⟨z,⟨rfl,rfl⟩|⟨rfl,q',rfl⟩⟩:=e2
 ·simp[Instr.sliceBounds]
 ·have:= @run_sliceBound P w q' l len BoundsCode.sliceB b0 (by omega);simp[Instr.sliceBounds,this]
 ·have:= @run_sliceBound P w q h cap (if isS then BoundsCode.sliceAcap else .sliceAlen) (by omega) (by omega);simp[Instr.sliceBounds,this]
 ·have h1:= @run_sliceBound P w q h cap (if isS then BoundsCode.sliceAcap else .sliceAlen) (by omega) (by omega);have h2:= @run_sliceBound P w q' l h.toNat BoundsCode.sliceB b0 (by omega);simp[Instr.sliceBounds,h1,h2]
theorem str_slice{s:Bytes}{l h:Nat}(hl:l≤h)(hh:h≤s.length):(⟨s.toArray⟩:ByteArray).extract l h=⟨((s.take h).drop l).toArray⟩:=by apply ByteArray.ext;simp only[ByteArray.data_extract];apply Array.ext';simp[List.extract_eq_take_drop,List.drop_take]
theorem Qy{x:Value}{l h:Nat}(hx:ak P μ (.rs sz es) x)(hl:l≤h)(hh:h≤es.length):∃a cap,x=.slice a es.length cap∧es.length≤cap∧ak P μ (.rs sz ((es.take h).drop l)) (.slice (if cap=l then a else a.map (·.add (l*sz))) (h-l) (cap-l)):=by
 have hlen:((es.take h).drop l).length=h-l:=by simp;omega
 cases hx with
 |jr=>
  simp at hh;subst hh;have:l=0:=by omega
  subst this;exact⟨none,0,rfl,by simp,by simpa using ak.jr⟩
 | @FV _ cap a hc=>
  simp at hh;subst hh;have:l=0:=by omega
  subst this;refine⟨some a,cap,rfl,by simp,?_⟩;have:(if cap=0 then some a else(some a).map (·.add (0*sz)))=some a:=by split<;>simp[Addr.add]
  rw[this];exact .FV hc
 | @rs _ _ b o cap X h1 h2 h3 h4 h5 h6=>
  refine⟨_,cap,rfl,h1,?_⟩;have eK:∀(i:Nat)e,((es.take h).drop l)[i]?=some e→es[l+i]?=some e:=fun i e hi=>(ep (kU hi)).2;by_cases hz:h=l
  ·have:(es.take h).drop l=[]:=List.eq_nil_of_length_eq_zero (by omega);rw[this];have Qz:h-l=0:=by omega
   rw[Qz];split
   ·exact .FV (by omega)
   ·simp only[Option.map_some];exact .FV (by omega)
  ·have hc:cap≠l:=by omega
   rw[if_neg hc];simp only[Option.map_some,Addr.add_mid];have:=ak.rs (P:=P) (μ:=μ) (sz:=sz) (es:=(es.take h).drop l) (b:=b) (o:=o+l*sz) (cap:=cap-l) (fun i j=>X (l+i) j) (by omega) (by omega) (fun i e hi=>h3 _ e (eK i e hi)) (fun i e j p hi hj=>by have:=h4 _ e j p (eK i e hi) hj;rw[Nat.add_mul]at this;rw[←this];congr 1;omega) (fun i e j p hi hj=>h5 _ e j p (eK i e hi) hj) (fun i e j p hi hj=>h6 _ e j p (eK i e hi) hj);rw[hlen]at this;exact this
theorem rX{e:TypeId}{a:Option Addr}{len cap l h:Nat}(hu:P.underlying t=some (.slice e))(hz:aT P e≠0)(hb:(Instr.sliceBounds true len cap Bc nd none).run P w=.ok (l,h,cap) w):(Instr.sliceAt t (.slice a len cap) Bc nd none).run P w=.ok (.slice (if cap=l then a else a.map (·.add (l*aT P e))) (h-l) (cap-l)) w:=by simp[Instr.sliceAt,Instr.slice,run_underlying hu,hb,ic hz]
theorem NY{lo hi mx:Option V}{k:V→bp→Option R}(h:rS E t x lo hi mx m k=some r):∃v ft,(∀m2:Mem,(∀x∈ft,m2 x.2=m x.2)→∀(R':Type)(k':V→bp→Option R'),rS E t x lo hi mx m2 k'=k' v ft)∧k v ft=some r∧(∀x∈ft,x.1=false)∧(∀id,v.has id=true→x.has id=true)∧∀(G:Nat→Option (List PV))(w0:bA)(μ:Ro)(φ:Nat→aG)(w:World)(y:Value)(Bc nd Vv:Option Value),ay E.P G w0 μ φ m w→ai E.P μ φ x y→(∀v,lo=some v→∃y,Bc=some y∧ai E.P μ φ v y)→(lo=none→Bc=none)→(∀v,hi=some v→∃y,nd=some y∧ai E.P μ φ v y)→(hi=none→nd=none)→(∀v,mx=some v→∃y,Vv=some y∧ai E.P μ φ v y)→(mx=none→Vv=none)→∃z,(Instr.sliceAt t y Bc nd Vv).run E.P w=.ok z w∧ai E.P μ φ v z:=by
 unfold rS at h;split at h
 ·rename_i mv;split at h
  ·rename_i e id hu;split at h
   ·rename_i s et es hm;split at h
    ·rename_i qh hh qc c;split at h
     ·rename_i hb;refine⟨_,_,fun m2 cP R' k'=>by have:=cP (false,id) (by simp);simp only at this;simp only[rS,hu,this,hm];rw[if_pos hb],h,by simp,by simp[V.has],fun G w0 μ φ w y Bc nd Vv hM hy r1 r2 r3 r4 r5 r6=>?_⟩;have hA:=hM.arr (.inl hm);have hle:=hA.mG;obtain⟨a1,a2,a3,a4,a5,a6,a7⟩:=hA;obtain⟨ym,rfl,hym⟩:=r5 _ rfl;have ZK:=r2 rfl;subst ZK;cases hym with
      |pv hym=>cases hym with
       |int hwc=>
        have hB:∀len cap:Nat,len=es.length→c≤(cap:Int)→(Instr.sliceBounds true len cap none nd (some (.int qc c))).run E.P w=.ok (0,hh.toNat,c.toNat) w:=by
         intro len cap hlen ng;have h1:= @run_sliceBound E.P w qc c cap BoundsCode.slice3Acap (by omega) ng;obtain⟨yh,rfl,hyh⟩:=r3 _ rfl;cases hyh with
         |pv hyh=>cases hyh with
          |int hwh=>have h2:= @run_sliceBound E.P w qh hh c.toNat BoundsCode.slice3B (by omega) (by omega);simp[Instr.sliceBounds,h1,h2]
        have hS:∀(a:Option Addr)(len cap:Nat),len=es.length→c≤(cap:Int)→(Instr.sliceAt t (.slice a len cap) none nd (some (.int qc c))).run E.P w=.ok (.slice (if c.toNat=0 then a else a.map (·.add (0*aT E.P e))) hh.toNat c.toNat) w:=by intro a len cap hlen ng;simp[Instr.sliceAt,Instr.slice,run_underlying hu,hB len cap hlen ng,ic (show aT E.P e≠0 by omega)]
        cases hy with
        |pB hg=>
         rw[hg]at a7;have h0:es.length=0:=by rw[a7.1];rfl
         refine⟨_,hS none 0 0 h0.symm (by omega),?_⟩;have e1:hh.toNat=0:=by omega
         have e2:c.toNat=0:=by omega
         rw[e1,e2];exact .ot hg
        | @os _ g hg=>
         refine⟨_,hS _ _ _ a1 (by omega),?_⟩;have:(if c.toNat=0 then some (⟨g,0,none⟩:Addr)else(some ⟨g,0,none⟩:Option Addr).map (·.add (0*aT E.P e)))=some ⟨g,0*(φ id).sz,none⟩:=by split<;>simp[Addr.add]
         rw[this];exact .fj hg (by omega) (.inl rfl) (by omega) (by omega)
     ·cases h
    ·cases h
   ·cases h
  ·cases h
 ·split at h
  ·rename_i s hu;split at h
   ·rename_i l hh hl Mm;split at h
    ·rename_i hb;refine⟨_,_,fun m2 _ R' k'=>by simp only[rS,hu,hl,Mm];rw[if_pos hb],h,by simp,by simp,fun G w0 μ φ w y Bc nd Vv hM hy r1 r2 r3 r4 _ r6=>?_⟩;have hmx:=r6 rfl;subst hmx;cases hy with
     |pv hy=>cases hy with
      |str hlen=>have hB:=jR (P:=E.P) (w:=w) (isS:=false) (cap:=s.length) hl Mm r1 r2 r3 r4 hb.1 hb.2.1 hb.2.2 (Nat.le_refl _);refine⟨_,?_,.pv (.str (s:=(s.take hh.toNat).drop l.toNat) (by simp;omega))⟩;simp only[Instr.sliceAt,Instr.slice,Sem.run_bind,run_underlying hu,Result.andThen_ok,A9,hB];simp only[Option.isSome_none,Bool.false_eq_true,if_false,Sem.run_bind,Sem.run_pure,Result.andThen_ok,hB];rw[str_slice (by omega) (by omega)]
    ·cases h
   ·cases h
  ·rename_i e sz es hu;split at h
   ·rename_i l hh hl Mm;split at h
    ·rename_i hb;refine⟨_,_,fun m2 _ R' k'=>by simp only[rS,hu,hl,Mm];rw[if_pos hb],h,by simp,by simp,fun G w0 μ φ w y Bc nd Vv hM hy r1 r2 r3 r4 _ r6=>?_⟩;have hmx:=r6 rfl;subst hmx;cases hy with
     |pv hy=>obtain⟨a,cap,rfl,hc,hr⟩:=Qy (l:=l.toNat) (h:=hh.toNat) hy (by omega) (by omega);have hB:=jR (P:=E.P) (w:=w) (isS:=true) (cap:=cap) hl Mm r1 r2 r3 r4 hb.1 hb.2.1 hb.2.2.1 hc;exact⟨_,rX hu hb.2.2.2.2 hB,by rw[←hb.2.2.2.1];exact .pv hr⟩
    ·cases h
   ·cases h
  ·rename_i e id hu;have key:∀(s:Nat)(et:TypeId)(es:List PV)(l hh:Int),(m id=some (.arr s et es)∨m id=some (.nP s et es))→iw 0 lo=some l→iw es.length hi=some hh→(0≤l∧l≤hh∧hh≤(es.length:Int)∧s=aT E.P e)→∀(G:Nat→Option (List PV))(w0:bA)(μ:Ro)(φ:Nat→aG)(w:World)(y:Value)(Bc nd:Option Value),ay E.P G w0 μ φ m w→ai E.P μ φ (.os id) y→(∀v,lo=some v→∃y,Bc=some y∧ai E.P μ φ v y)→(lo=none→Bc=none)→(∀v,hi=some v→∃y,nd=some y∧ai E.P μ φ v y)→(hi=none→nd=none)→∃z,(Instr.sliceAt t y Bc nd none).run E.P w=.ok z w∧ai E.P μ φ (.fj id l.toNat (hh.toNat-l.toNat)) z:=by
    intro s et es l hh hm hl Mm hb G w0 μ φ w y Bc nd hM hy r1 r2 r3 r4;have hA:=hM.arr hm;have hle:=hA.mG;obtain⟨a1,a2,a3,a4,a5,a6,a7⟩:=hA;cases hy with
    |pB hg=>
     rw[hg]at a7;have h0:es.length=0:=by rw[a7.1];rfl
     have hB:=jR (P:=E.P) (w:=w) (isS:=true) (cap:=0) hl Mm r1 r2 r3 r4 hb.1 hb.2.1 hb.2.2.1 (by omega);rw[h0]at hB;refine⟨_,rX hu (by omega) hB,?_⟩;have e1:l.toNat=0:=by omega
     have e2:hh.toNat=0:=by omega
     rw[e1,e2];exact .ot hg
    | @os _ g hg=>
     have hB:=jR (P:=E.P) (w:=w) (isS:=true) (cap:=(φ id).cap) hl Mm r1 r2 r3 r4 hb.1 hb.2.1 hb.2.2.1 (by omega);rw[←a1]at hB;refine⟨_,rX hu (by omega) hB,?_⟩;by_cases hc:(φ id).cap=l.toNat
     ·rw[if_pos hc];by_cases h0:l.toNat=0
      ·rw[h0];exact .fj hg (by omega) (.inl (by simp)) (by omega) (by omega)
      ·exact .fj hg (by omega) (.inr ⟨hc,by omega⟩) (by omega) (by omega)
     ·rw[if_neg hc];simp only[Option.map_some,Addr.add_mid,Nat.zero_add];refine .fj hg (by omega) (.inl ?_) (by omega) (by omega);rw[a2,hb.2.2.2]
   split at h
   ·rename_i s et es hm;split at h
    ·rename_i l hh hl Mm;split at h
     ·rename_i hb;exact⟨_,_,fun m2 cP R' k'=>by have:=cP (false,id) (by simp);simp only at this;simp only[rS,hu,this,hm,hl,Mm];rw[if_pos hb],h,by simp,by simp[V.has],fun G w0 μ φ w y Bc nd Vv hM hy r1 r2 r3 r4 _ r6=>by rw[r6 rfl];exact key s et es l hh (.inl hm) hl Mm hb G w0 μ φ w y Bc nd hM hy r1 r2 r3 r4⟩
     ·cases h
    ·cases h
   ·rename_i s et es hm;split at h
    ·rename_i l hh hl Mm;split at h
     ·rename_i hb;exact⟨_,_,fun m2 cP R' k'=>by have:=cP (false,id) (by simp);simp only at this;simp only[rS,hu,this,hm,hl,Mm];rw[if_pos hb],h,by simp,by simp[V.has],fun G w0 μ φ w y Bc nd Vv hM hy r1 r2 r3 r4 _ r6=>by rw[r6 rfl];exact key s et es l hh (.inr hm) hl Mm hb G w0 μ φ w y Bc nd hM hy r1 r2 r3 r4⟩
     ·cases h
    ·cases h
   ·cases h
  ·cases h
end
end Go.Ab
