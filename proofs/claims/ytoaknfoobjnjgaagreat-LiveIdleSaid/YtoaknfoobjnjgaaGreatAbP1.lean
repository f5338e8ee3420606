import Derived.Test.YtoaknfoobjnjgaaGreatAbEval
import Derived.Below
import Derived.Laws.CopyRow
import Derived.Deep.MidRow
set_option linter.all false
namespace Go.Ab
open Go.RowKit (Below)
abbrev Ro:=Nat→Option Obj
def acD:Bool:=true
structure lr(B:Nat)(w w':World):Prop extends Below B w w' where
 drawn:acD=true→w.drawn≤w'.drawn
namespace lr
theorem refl(B:Nat)(w:World):lr B w w:=⟨Below.refl B w,fun _=>anz _⟩
theorem trans{B:Nat}{a b c:World}(h:lr B a b)(k:lr B b c):lr B a c:=⟨h.toBelow.trans k.toBelow,fun u=>anW (h.drawn u) (k.drawn u)⟩
theorem mono{B B':Nat}{w w':World}(h:lr B w w')(hB:B'≤B):lr B' w w':=⟨h.toBelow.mono hB,h.drawn⟩
theorem drew{B:Nat}{a w:World}(h:lr B a w):lr B a w.drew:=⟨h.toBelow.drew,fun u=>Nat.le_succ_of_le (h.drawn u)⟩
theorem heap_alloc(w:World)(o:Obj)(k:Nat)(h:k<w.heap.size):(w.alloc o).heap[k]?=w.heap[k]?:=Below.heap_alloc w o k h
theorem alloc{B:Nat}{a w:World}(h:lr B a w)(hB:B≤w.heap.size)(o:Obj):lr B a (w.alloc o):=⟨h.toBelow.alloc hB o,h.drawn⟩
end lr
def Jmp.code:Jmp→Code
 |.ret=>.ret
 |.exit id=>.exit id
def Qe.obj(rc:Loop):Qe→Loop
 |.ready=>{rc with state:=.ready,pending:=none}
 |.busy=>{rc with state:=.busy,pending:=none}
 |.done j=>{rc with state:=.done,pending:=some j.code}
def cellAt(μ:Ro)(b o:Nat):Option Value:=match μ b with|some (.cells c _ _)=>c[o]?|_=>none
def CG(f:FuncId)(xs:Array Value):Value:=if f<Gp then .func (.func f) #[] xs else .func (.func (f-Gp)) xs #[]
variable{xs:Array Value}
theorem sY{f:FuncId}(h:Nat.blt f Gp=true):CG f xs=.func (.func f) #[] xs:=BY (by rwa[aoF]at h)
theorem NG{f:FuncId}(h:Nat.blt f Gp=false):CG f xs=.func (.func (f-Gp)) xs #[]:=IT (by rw[←aor,aoF]at h;omega)
theorem ou(f:FuncId)(xs:Array Value):∃g a b,CG f xs=.func (.func g) a b:=by
 unfold CG;split
 ·simp
 simp
theorem JL(f:FuncId)(xs:Array Value):(CG f xs).oneCell'=true:=by obtain⟨g,a,b,h⟩:=ou f xs;rw[h];rfl
inductive au(P:Program)(μ:Ro):PV→Value→Prop
 |int {k:IntKind} {n:Int}:(Lit.int k n).wf=true→au P μ (.int k n) (.int k n)
 |bool {b:Bool}:au P μ (.bool b) (.bool b)
 |str {s:Bytes}:s.length≤maxLen→au P μ (.str s) (.string ⟨s.toArray⟩)
 |agg {cs:List PV} {xs:Array Value}:cs.length=xs.size→(∀(i:Nat)p x,cs[i]?=some p→xs[i]?=some x→au P μ p x)→(∀(i:Nat)(x:Value),xs[i]?=some x→x.oneCell'=true)→au P μ (.agg cs) (.agg xs)
 |aV {cs:List PV} {xs:Array Value}:cs.length=xs.size→(∀(i:Nat)p x,cs[i]?=some p→xs[i]?=some x→au P μ p x)→au P μ (.aV cs) (.tuple xs)
 |oh:au P μ .oh (.pointer none)
 |rp {cs:List PV} {b o:Nat} (X:Nat→Value):(∀(i:Nat)p,cs[i]?=some p→cellAt μ b (o+i)=some (X i))→(∀(i:Nat)p,cs[i]?=some p→au P μ p (X i))→(∀i:Nat,i<cs.length→(X i).oneCell'=true)→au P μ (.rp cs) (.pointer (some ⟨b,o,none⟩))
 |lV {sz:Nat}:au P μ (.rs sz []) (.slice none 0 0)
 |M9 {sz cap:Nat} {a:Addr}:cap≤maxLen→au P μ (.rs sz []) (.slice (some a) 0 cap)
 |rs {sz:Nat} {es:List PV} {b o cap:Nat} (X:Nat→Nat→Value):es.length≤cap→cap≤maxLen→(∀(i:Nat)e,es[i]?=some e→e.cells.length=sz)→(∀(i:Nat)e(j:Nat)p,es[i]?=some e→e.cells[j]?=some p→cellAt μ b (o+i*sz+j)=some (X i j))→(∀(i:Nat)e(j:Nat)p,es[i]?=some e→e.cells[j]?=some p→au P μ p (X i j))→(∀(i:Nat)e(j:Nat)p,es[i]?=some e→e.cells[j]?=some p→(X i j).oneCell'=true)→au P μ (.rs sz es) (.slice (some ⟨b,o,none⟩) es.length cap)
 |nW:au P μ .nW (.map none)
 |rm {kt:TypeId} {ks vs:List PV} {b clock:Nat} {en:Array MapEntry} {kk:List Kd}:μ b=some (.map en clock)→en.size=ks.length→vs.length=ks.length→uD P kt=some kk→(∀(i:Nat)k,ks[i]?=some k→yn P kt kk k=true)→(∀(i:Nat)k e,ks[i]?=some k→en[i]?=some e→au P μ k e.key)→(∀(i:Nat)v e,vs[i]?=some v→en[i]?=some e→au P μ v e.val)→au P μ (.rm kt ks vs) (.map (some b))
 |AM:au P μ .AM .nilFunc
 |fn {f:FuncId} {cs:List PV} {xs:Array Value}:cs.length=xs.size→(∀(i:Nat)p x,cs[i]?=some p→xs[i]?=some x→au P μ p x)→au P μ (.fn f cs) (CG f xs)
 |Xl:au P μ (.Uu false) .nilIface
 |acE {t:TypeId} {x:Value}:au P μ (.Uu true) (.iface t x)
 |bad {x:Value}:au P μ .bad x
structure A2(P:Program)(μ:Ro)(g:Nat)(cs:List PV):Prop where
 rep:au P μ (.rp cs) (.pointer (some ⟨g,0,none⟩))
 size:∃c T z,μ g=some (.cells c T z)∧c.size=cs.length
structure EX where
 g:Option Nat
 cap:Nat
 len:Nat
 sz:Nat
 deriving Inhabited
structure aK extends EX where
 row:Nat→Nat→EX:=fun _ _=>default
 deriving Inhabited
abbrev EY(g:Option Nat)(cap len sz:Nat):aK:={g,cap,len,sz}
def EX.up(p:EX):aK:={toEX:=p}
inductive aq(P:Program)(μ:Ro)(φ:Nat→aK):V→Value→Prop
 |pv {p:PV} {x:Value}:au P μ p x→aq P μ φ (.pv p) x
 |gy:aq P μ φ .gy (.slice none 0 0)
 |op {id off g:Nat}:(φ id).g=some g→aq P μ φ (.op id off) (.pointer (some ⟨g,off,none⟩))
 |oe {id i off g:Nat}:(φ id).g=some g→aq P μ φ (.oe id i off) (.pointer (some ⟨g,i*(φ id).sz+off,none⟩))
 |ux {id:Nat}:(φ id).g=none→aq P μ φ (.os id) (.slice none 0 0)
 |os {id g:Nat}:(φ id).g=some g→aq P μ φ (.os id) (.slice (some ⟨g,0,none⟩) (φ id).len (φ id).cap)
 |sX {id:Nat}:(φ id).g=none→aq P μ φ (.fX id 0 0) (.slice none 0 0)
 |fX {id lo len cap g:Nat} {a:Addr}:(φ id).g=some g→lo+len≤(φ id).len→(a=⟨g,lo*(φ id).sz,none⟩∨((φ id).cap=lo∧0<lo))→len≤cap→lo+cap≤(φ id).cap→aq P μ φ (.fX id lo len) (.slice (some a) len cap)
 |Lk {id i off:Nat}:((φ id).row i off).g=none→aq P μ φ (.yK id i off) (.slice none 0 0)
 |yK {id i off g:Nat}:((φ id).row i off).g=some g→aq P μ φ (.yK id i off) (.slice (some ⟨g,0,none⟩) ((φ id).row i off).len ((φ id).row i off).cap)
 |Cv {id i off s j off2 g:Nat}:((φ id).row i off).g=some g→((φ id).row i off).sz=s→aq P μ φ (.Cv id i off s j off2) (.pointer (some ⟨g,j*s+off2,none⟩))
 |om {id g:Nat}:(φ id).g=some g→aq P μ φ (.om id) (.map (some g))
 |yl {id g:Nat}:(φ id).g=some g→aq P μ φ (.yl id) (.func (.yield g) #[] #[])
 |it {id g:Nat}:(φ id).g=some g→aq P μ φ (.it id) (.pointer (some ⟨g,0,none⟩))
 |fn {f:FuncId} {cs:List V} {xs:Array Value}:cs.length=xs.size→(∀(i:Nat)p x,cs[i]?=some p→xs[i]?=some x→aq P μ φ p x)→aq P μ φ (.fn f cs) (CG f xs)
 |agg {cs:List V} {xs:Array Value}:cs.length=xs.size→(∀(i:Nat)p x,cs[i]?=some p→xs[i]?=some x→aq P μ φ p x)→(∀(i:Nat)(x:Value),xs[i]?=some x→x.oneCell'=true)→aq P μ φ (.agg cs) (.agg xs)
 |aV {cs:List V} {xs:Array Value}:cs.length=xs.size→(∀(i:Nat)p x,cs[i]?=some p→xs[i]?=some x→aq P μ φ p x)→aq P μ φ (.aV cs) (.tuple xs)
 |top {x:Value}:aq P μ φ .top x
def aP(P:Program)(μ:Ro)(φ:Nat→aK)(w:World)(id sz:Nat)(et:TypeId)(es:List PV):Prop:=
 (φ id).len=es.length∧(φ id).sz=sz∧sz=aW P et∧0<sz∧(∀(i:Nat)e,es[i]?=some e→e.cells.length=sz)∧(φ id).cap≤maxLen∧
 match(φ id).g with
 |none=>es=[]∧(φ id).cap=0
 |some g=>∃(c:Array Value)(T:TypeId),w.heap[g]?=some (.cells c T (0,0))∧(φ id).cap*sz≤c.size∧es.length≤(φ id).cap∧(∀(i:Nat)e(j:Nat)p x,es[i]?=some e→e.cells[j]?=some p→c[i*sz+j]?=some x→au P μ p x)∧(∀(i:Nat)(x:Value),i<es.length*sz→c[i]?=some x→x.oneCell'=true)
def bI.rowAt:bI→Nat→Nat→Bool
 |.nest _ _ es,i,off=>match es[i]? with
  |some e=>match e.cells[off]? with
   |some p=>p.isRow
   |none=>false
  |none=>false
 |.fH _ _ es,i,0=>match es[i]? with
  |some x=>x.2.isRow
  |none=>false
 |_,_,_=>false
def fb(P:Program)(μ:Ro)(R:EX)(w:World)(s:Nat)(rs:List PV)(x:Value):Prop:=(∃et,aP P μ (fun _=>R.up) w 0 s et rs)∧aq P μ (fun _=>R.up) (.os 0) x
def eH(P:Program)(μ:Ro)(R:EX)(w:World)(p:PV)(x:Value):Prop:=match p with
 |.jr s rs=>fb P μ R w s rs x
 |p=>au P μ p x
def bg(P:Program)(μ:Ro)(φ:Nat→aK)(w:World)(id sz:Nat)(et:TypeId)(es:List PV):Prop:=
 (φ id).len=es.length∧(φ id).sz=sz∧sz=aW P et∧0<sz∧(∀(i:Nat)e,es[i]?=some e→e.cells.length=sz)∧(φ id).cap≤maxLen∧
 match(φ id).g with
 |none=>es=[]∧(φ id).cap=0
 |some g=>∃(c:Array Value)(T:TypeId),w.heap[g]?=some (.cells c T (0,0))∧(φ id).cap*sz≤c.size∧es.length≤(φ id).cap∧(∀(i:Nat)e(j:Nat)p x,es[i]?=some e→e.cells[j]?=some p→c[i*sz+j]?=some x→eH P μ ((φ id).row i j) w p x)∧(∀(i:Nat)(x:Value),i<es.length*sz→c[i]?=some x→x.oneCell'=true)
def mS(en:Array MapEntry)(clock:Nat):Prop:=∀(i:Nat)e,en[i]?=some e→e.born<clock∧∀(j:Nat)e',en[j]?=some e'→e'.born=e.born→j=i
def mi(en:Array MapEntry)(seen:Array Nat):List MapEntry:=en.toList.filter fun e=> !seen.contains e.born
def gK(P:Program)(μ:Ro)(φ:Nat→aK)(w:World)(id:Nat):bI→Prop
 |.box cs=>∃(g:Nat)(c:Array Value)(T:TypeId),(φ id).g=some g∧w.heap[g]?=some (.cells c T (0,0))∧c.size=cs.length∧(∀(i:Nat)v x,cs[i]?=some v→c[i]?=some x→aq P μ φ v x)∧(∀(i:Nat)(x:Value),c[i]?=some x→x.oneCell'=true)∧(φ id).len=cs.length
 |.arr sz et es=>aP P μ φ w id sz et es
 |.rE sz et es=>aP P μ φ w id sz et es∧∀g,(φ id).g=some g→(μ g).isSome
 |.map kt es=>∃(g:Nat)(en:Array MapEntry)(clock:Nat)(kk:List Kd),(φ id).g=some g∧w.heap[g]?=some (.map en clock)∧en.size=es.length∧uD P kt=some kk∧(∀(i:Nat)k v,es[i]?=some (k,v)→yn P kt kk k=true)∧mS en clock∧(∀(i:Nat)k v e,es[i]?=some (k,v)→en[i]?=some e→au P μ k e.key∧au P μ v e.val)
 |.nest sz et es=>bg P μ φ w id sz et es
 |.fH kt e0 es=>∃(g:Nat)(en:Array MapEntry)(clock:Nat)(kk:List Kd),(φ id).g=some g∧w.heap[g]?=some (.map en clock)∧en.size=es.length∧uD P kt=some kk∧(∀(i:Nat)k v,es[i]?=some (k,v)→yn P kt kk k=true)∧mS en clock∧(∀(i:Nat)k v e,es[i]?=some (k,v)→en[i]?=some e→au P μ k e.key∧(match v with
  |.jr s rs=>aP P μ (fun _=>((φ id).row i 0).up) w 0 s e0 rs∧aq P μ (fun _=>((φ id).row i 0).up) (.os 0) e.val
  |v=>au P μ v e.val))
 |.iter t es cur=>∃(g mg:Nat)(en:Array MapEntry)(clock:Nat)(seen:Array Nat),(φ id).g=some g∧w.heap[g]?=some (.mapIter (some mg) clock seen clock)∧μ mg=some (.map en clock)∧mS en clock∧(mi en seen).length=es.length∧(∀(i:Nat)k v e,es[i]?=some (k,v)→(mi en seen)[i]?=some e→au P μ k e.key∧au P μ v e.val)∧∀k v,cur=some (k,v)→∃(i:Nat)(e:MapEntry),en[i]?=some e∧seen.back? =some e.born∧au P μ k e.key∧au P μ v e.val
 |.loop st=>∃(g:Nat)(rc:Loop),(φ id).g=some g∧w.heap[g]?=some (.loop (st.obj rc))
def bI.ke:bI→Bool
 |.rE .. =>false
 |_=>true
structure bl where
 w:World
 mu:Ro
 sv:Nat→Value
 dG:Ro:=fun _=>none
 lu:Ro:=fun _=>none
 rc:Nat→Option (Nat×Loop):=fun _=>none
 hid:Ro:=fun _=>none
abbrev bl.heap(B:bl):Array Obj:=B.w.heap
def bI.owns(b:bI)(p:aK)(g:Nat):Prop:=p.g=some g∨∃i off,b.rowAt i off=true∧(p.row i off).g=some g
def bI.apart(b:bI)(p:aK):Prop:=∀i off g,b.rowAt i off=true→(p.row i off).g=some g→p.g≠some g∧∀i' xg,b.rowAt i' xg=true→(p.row i' xg).g=some g→i'=i∧xg=off
structure aG(P:Program)(G:Nat→Option (List PV))(w0:bl)(μ:Ro)(φ:Nat→aK)(m:Mem)(w:World):Prop where
 below:lr w0.heap.size w0.w w
 ro:∀b o,μ b=some o→w.heap[b]?=some o
 aF:∀g cs,G g=some cs→A2 P μ g cs
 dF:∀id b,m id=some b→gK P μ φ w id b
 own:∀id b g,m id=some b→b.owns (φ id) g→w0.heap.size≤g∧(b.ke=true→μ g=none)
 inj:∀Xm id2 b1 b2 g,m Xm=some b1→m id2=some b2→b1.owns (φ Xm) g→b2.owns (φ id2) g→Xm=id2
 apart:∀id b,m id=some b→b.apart (φ id)
 fJ:∀j cs id,m j=some (.box cs)→cq id cs=true→(m id).isSome=true
 base:∀b o,μ b=some o→b<w0.heap.size→w0.mu b=some o
 dG:∀b o,w0.dG b=some o→μ b=some o
 DL:∀id st,m id=some (.loop st)→∃g rc,(φ id).g=some g∧w0.rc id=some (g,rc)∧w.heap[g]?=some (.loop (st.obj rc))
 hid:∀g o,w0.hid g=some o→w.heap[g]?=some o∧w0.heap.size≤g∧μ g=none∧∀id b,m id=some b→¬b.owns (φ id) g
def bV(nt:Nat)(w0:bl)(a:Act):Nat→Value:=fun t=>if t<nt then a.tmps.getD t undef else w0.sv t
theorem qZ{nt:Nat}{w0:bl}{a:Act}{t:Nat}(h:t<nt):bV nt w0 a t=a.tmps.getD t undef:=BY h
def Marks(B:Nat)(lu μ:Ro)(ds:List Deferred):Prop:=∃Ds:List Nat,ds=Ds.map (fun D=>{target:=.collected D,args:= #[]})∧Ds.Nodup∧∀D∈Ds,B≤D∧lu D=none∧μ D=some (.deferred (some []))
theorem Marks.nil(B:Nat)(lu μ:Ro):Marks B lu μ []:=⟨[],rfl,.nil,by simp⟩
theorem Marks.mono{B:Nat}{lu μ μ':Ro}(h:∀b o,μ b=some o→μ' b=some o){ds:List Deferred}:Marks B lu μ ds→Marks B lu μ' ds
 |⟨Ds,e,hn,hD⟩=>⟨Ds,e,hn,fun D hd=>⟨(hD D hd).1,(hD D hd).2.1,h _ _ (hD D hd).2.2⟩⟩
structure Rel(P:Program)(G:Nat→Option (List PV))(nt:Nat)(w0:bl)(μ:Ro)(φ:Nat→aK)(f:Fr)(m:Mem)(a:Act)(w:World):Prop extends aG P G w0 μ φ m w where
 size:a.tmps.size=nt
 defers:Marks w0.heap.size w0.lu μ a.defers
 lu:∀b o,w0.lu b=some o→w0.dG b=some o
 fr:∀t,aq P μ φ (f t) (bV nt w0 a t)
 live:∀t id,(f t).has id=true→(m id).isSome=true
section
variable {P:Program} {μ μ':Ro} {φ φ':Nat→aK}
variable{x:Value}
theorem EZ(h:∀b o,μ b=some o→μ' b=some o){b o:Nat}(hx:cellAt μ b o=some x):cellAt μ' b o=some x:=by grind [cellAt]
variable{p:PV}
theorem au.mono(h:∀b o,μ b=some o→μ' b=some o)(hp:au P μ p x):au P μ' p x:=by
 induction hp with
 |int h=>exact .int h
 |bool=>exact .bool
 |str h=>exact .str h
 |agg h1 _ h3 ih=>exact .agg h1 ih h3
 |aV h1 _ ih=>exact .aV h1 ih
 |oh=>exact .oh
 |rp X h1 _ h3 ih=>exact .rp X (fun i p hi=>EZ h (h1 i p hi)) ih h3
 |lV=>exact .lV
 |M9 h=>exact .M9 h
 |rs X h1 h2 h3 h4 _ h6 ih=>exact .rs X h1 h2 h3 (fun i e j p hi hj=>EZ h (h4 i e j p hi hj)) ih h6
 |nW=>exact .nW
 |rm h1 h2 h3 h4 h5 _ _ ih1 ih2=>exact .rm (h _ _ h1) h2 h3 h4 h5 ih1 ih2
 |AM=>exact .AM
 |fn h1 _ ih=>exact .fn h1 ih
 |Xl=>exact .Xl
 |acE=>exact .acE
 |bad=>exact .bad
theorem A2.mono(h:∀b o,μ b=some o→μ' b=some o){g:Nat}{cs:List PV}(hv:A2 P μ g cs):A2 P μ' g cs:=⟨hv.rep.mono h,let⟨c,T,z,h1,h2⟩:=hv.size;⟨c,T,z,h _ _ h1,h2⟩⟩
theorem bO{id:Nat}{v:V}:∀{cs:List V},v∈cs→v.has id=true→cq id cs=true
 |c::r,hm,hv=>by
  rcases anA.1 hm with rfl|hm
  ·simp[cq,hv]
  ·simp[cq,bO hm hv]
theorem cT{id:Nat}:∀{cs:List V},cq id cs=true↔∃v∈cs,v.has id=true
 |[]=>by simp[cq]
 |c::r=>by simp[cq,cT (cs:=r)]
theorem Ai{id:Nat}{v:V}:∀{cs:List V},v∈cs→v.yC id=true→Cx id cs=true
 |c::r,hm,hv=>by
  rcases anA.1 hm with rfl|hm
  ·simp[Cx,hv]
  ·simp[Cx,Ai hm hv]
theorem aq.mono(h:∀b o,μ b=some o→μ' b=some o){v:V}{x:Value}(hv:aq P μ φ v x)(hφ:∀id,v.has id=true→φ' id=φ id):aq P μ' φ' v x:=by
 induction hv with
 |pv hp=>exact .pv (hp.mono h)
 |gy=>exact .gy
 |op hg=>exact .op (by simp_all[V.has])
 | @oe id i off g hg=>have e:=hφ id (by simp[V.has]);have:=aq.oe (P:=P) (μ:=μ') (φ:=φ') (id:=id) (i:=i) (off:=off) (g:=g) (by rw[e];omega);simp_all
 | @ux id hg=>exact .ux (by rw[hφ id (by simp[V.has])];omega)
 | @os id g hg=>have e:=hφ id (by simp[V.has]);have:=aq.os (P:=P) (μ:=μ') (φ:=φ') (id:=id) (g:=g) (by rw[e];omega);simp_all
 | @sX id hg=>exact .sX (by rw[hφ id (by simp[V.has])];omega)
 | @fX id lo len cap g a hg hl ha hc hc'=>have e:=hφ id (by simp[V.has]);exact aq.fX (P:=P) (μ:=μ') (φ:=φ') (id:=id) (lo:=lo) (len:=len) (cap:=cap) (g:=g) (a:=a) (by rw[e];omega) (by rw[e];omega) (by rw[e];omega) hc (by rw[e];omega)
 | @Lk id i off hg=>exact .Lk (by rw[hφ id (by simp[V.has])];omega)
 | @yK id i off g hg=>have e:=hφ id (by simp[V.has]);have:=aq.yK (P:=P) (μ:=μ') (φ:=φ') (id:=id) (i:=i) (off:=off) (g:=g) (by rw[e];omega);simp_all
 | @Cv id i off s j off2 g hg hs=>have e:=hφ id (by simp[V.has]);exact .Cv (by rw[e];omega) (by rw[e];omega)
 | @om id g hg=>exact .om (by rw[hφ id (by simp[V.has])];omega)
 | @yl id g hg=>exact .yl (by rw[hφ id (by simp[V.has])];omega)
 | @it id g hg=>exact .it (by rw[hφ id (by simp[V.has])];omega)
 |fn h1 _ ih=>exact .fn h1 (fun i p x hi hx=>ih i p x hi hx (fun id hid=>hφ id (by simp only[V.has];exact bO (amq hi) hid)))
 |agg h1 _ h3 ih=>exact .agg h1 (fun i p x hi hx=>ih i p x hi hx (fun id hid=>hφ id (by simp only[V.has];exact bO (amq hi) hid))) h3
 |aV h1 _ ih=>exact .aV h1 (fun i p x hi hx=>ih i p x hi hx (fun id hid=>hφ id (by simp only[V.has];exact bO (amq hi) hid)))
 |top=>exact .top
variable{v:V}
theorem aq.ael(h:∀b o,μ b=some o→μ' b=some o)(hv:aq P μ φ v x)(hφ:∀id,v.has id=true→(φ' id).toEX=(φ id).toEX∧(v.yC id=true→φ' id=φ id)):aq P μ' φ' v x:=by
 induction hv with
 |pv hp=>exact .pv (hp.mono h)
 |gy=>exact .gy
 |op hg=>exact .op (by simp_all[V.has])
 | @oe id i off g hg=>have e:=(hφ id (by simp[V.has])).1;have:=aq.oe (P:=P) (μ:=μ') (φ:=φ') (id:=id) (i:=i) (off:=off) (g:=g) (by rw[e];omega);simp_all
 | @ux id hg=>exact .ux (by rw[(hφ id (by simp[V.has])).1];omega)
 | @os id g hg=>have e:=(hφ id (by simp[V.has])).1;have:=aq.os (P:=P) (μ:=μ') (φ:=φ') (id:=id) (g:=g) (by rw[e];omega);simp_all
 | @sX id hg=>exact .sX (by rw[(hφ id (by simp[V.has])).1];omega)
 | @fX id lo len cap g a hg hl ha hc hc'=>have e:=(hφ id (by simp[V.has])).1;exact aq.fX (P:=P) (μ:=μ') (φ:=φ') (id:=id) (lo:=lo) (len:=len) (cap:=cap) (g:=g) (a:=a) (by rw[e];omega) (by rw[e];omega) (by rw[e];omega) hc (by rw[e];omega)
 | @Lk id i off hg=>exact .Lk (by rw[(hφ id (by simp[V.has])).2 (by simp[V.yC])];omega)
 | @yK id i off g hg=>have e:=(hφ id (by simp[V.has])).2 (by simp[V.yC]);have:=aq.yK (P:=P) (μ:=μ') (φ:=φ') (id:=id) (i:=i) (off:=off) (g:=g) (by rw[e];omega);simp_all
 | @Cv id i off s j off2 g hg hs=>have e:=(hφ id (by simp[V.has])).2 (by simp[V.yC]);exact .Cv (by rw[e];omega) (by rw[e];omega)
 | @om id g hg=>exact .om (by rw[(hφ id (by simp[V.has])).1];omega)
 | @yl id g hg=>exact .yl (by rw[(hφ id (by simp[V.has])).1];omega)
 | @it id g hg=>exact .it (by rw[(hφ id (by simp[V.has])).1];omega)
 |fn h1 _ ih=>exact .fn h1 (fun i p x hi hx=>ih i p x hi hx (fun id hid=>⟨(hφ id (by simp only[V.has];exact bO (amq hi) hid)).1,fun h2=>(hφ id (by simp only[V.has];exact bO (amq hi) hid)).2 (by simp only[V.yC];exact Ai (amq hi) h2)⟩))
 |agg h1 _ h3 ih=>exact .agg h1 (fun i p x hi hx=>ih i p x hi hx (fun id hid=>⟨(hφ id (by simp only[V.has];exact bO (amq hi) hid)).1,fun h2=>(hφ id (by simp only[V.has];exact bO (amq hi) hid)).2 (by simp only[V.yC];exact Ai (amq hi) h2)⟩)) h3
 |aV h1 _ ih=>exact .aV h1 (fun i p x hi hx=>ih i p x hi hx (fun id hid=>⟨(hφ id (by simp only[V.has];exact bO (amq hi) hid)).1,fun h2=>(hφ id (by simp only[V.has];exact bO (amq hi) hid)).2 (by simp only[V.yC];exact Ai (amq hi) h2)⟩))
 |top=>exact .top
theorem aq.A3(h:∀b o,μ b=some o→μ' b=some o)(hv:aq P μ φ v x):aq P μ' φ v x:=hv.mono h fun _ _=>rfl
theorem aq.kill(id:Nat)(hv:aq P μ φ v x):aq P μ φ (sS id v) x:=by
 unfold sS;cases v.has id<;>simp
 ·omega
 ·exact .top
theorem aq.A4(id:Nat)(hv:aq P μ φ v x):aq P μ φ (oj id v) x:=by
 unfold oj;cases v.yC id<;>simp
 ·omega
 ·exact .top
theorem Aj{id j:Nat}(h:(oj id v).has j=true):v.has j=true∧(oj id v).yC id=false:=by grind [oj,id,V.has]
theorem eH.pure{R:EX}{w:World}(h:au P μ p x):eH P μ R w p x:=by
 unfold eH;split
 ·cases h
 omega
theorem eH.Sx{R:EX}{w:World}(h:eH P μ R w p x)(hp:p.isRow=false):au P μ p x:=by
 unfold eH at h;split at h
 ·cases hp
 omega
theorem au.F7(h:au P μ p x):p.isRow=false:=by cases h<;>rfl
theorem yT{id j:Nat}(h:(sS id v).has j=true):v.has j=true∧j≠id:=by grind [sS,id,V.has]
end
section
variable {P:Program} {G:Nat→Option (List PV)} {w0:bl} {μ:Ro} {φ:Nat→aK} {f:Fr} {m:Mem} {w:World}
@[simp] theorem ak5(p:PV)(id:Nat):(V.pv p).has id=false:=by rfl
@[simp] theorem ak1(id:Nat):V.top.has id=false:=by rfl
@[simp] theorem ahi(id:Nat):V.gy.has id=false:=by rfl
theorem Sy(cs:List PV)(id:Nat):cq id (cs.map .pv)=false:=by
 induction cs with
 |nil=>rfl
 |cons c r ih=>simp[cq,ih]
theorem xl(k:IntKind)(n:Int):(Lit.int k n).wf=true↔k.min≤n∧n≤k.max:=by simp[Lit.wf]
theorem wf_wrap(k:IntKind)(n:Int):(Lit.int k (k.wrap n)).wf=true:=by rw[xl];cases k<;>simp only[IntKind.wrap,IntKind.min,IntKind.max,IntKind.signed,IntKind.bits]<;>simp<;>(try split)<;>omega
theorem au.one{p:PV}{x:Value}(h:au P μ p x)(h1:∀cs,p≠.agg cs)(h2:∀cs,p≠.aV cs)(h3:p≠.bad):x.oneCell'=true:=by cases h<;>first|rfl|exact JL _ _|exact absurd rfl (h1 _)|exact absurd rfl (h2 _)|exact absurd rfl h3
theorem GK(c:Value):aq P μ φ (DQ c) c:=by
 unfold DQ;split
 ·split
  ·exact .pv (.int (by omega))
  ·exact .top
 ·exact .pv .bool
 ·rename_i s;split
  ·exact .pv (.str (by omega))
  ·exact .top
 ·exact .pv .oh
 ·exact .gy
 ·exact .pv .nW
 ·exact .pv .AM
 ·exact .pv .Xl
 ·exact .top
theorem GL(c:Value)(id:Nat):(DQ c).has id=false:=by unfold DQ;split<;>(try split)<;>simp
theorem JM(c:Value)(id:Nat):(JE c).has id=false:=by
 unfold JE;split
 ·rename_i cs;split
  ·simp only[V.has];rw[Bool.eq_false_iff];intro h;obtain⟨v,hv,hh⟩:=cT.1 h;obtain⟨x,_,rfl⟩:=anG.1 hv;rw[GL]at hh;cases hh
  rfl
 ·exact GL _ _
theorem wm(c:Value):aq P μ φ (JE c) c:=by
 unfold JE;split
 ·rename_i cs;split
  ·rename_i hc;refine .agg (by simp) (fun i p x hi hx=>?_) (fun i x hx=>?_)
   ·grind [Option.some.injEq,GK]
   ·rw[an7]at hc;have:=hc x (by grind);cases x<;>first|rfl|(simp at this)
  ·exact .top
 ·exact GK _
end
section
variable {R:Type} {E:Env} {w0:bl} {μ:Ro} {φ:Nat→aK} {f:Fr} {m:Mem} {a:Act} {w:World}
theorem ax(h:Rel E.P E.aF E.fn.ntmps w0 μ φ f m a w)(x:Operand):aq E.P μ φ (bF E f x) (a.eval x)∧∀id,(bF E f x).has id=true→(m id).isSome=true:=by
 cases x with
 |tmp t=>
  simp only[bF];cases e:Nat.blt t E.fn.ntmps with
  |true=>
   have bK:t<E.fn.ntmps:=by rwa[aoF]at e
   have:=h.fr t;rw[qZ bK]at this;exact⟨this,h.live t⟩
  |false=>exact⟨.top,fun id hid=>by cases hid⟩
 |const c=>exact⟨wm c,fun id hid=>by simp_all[bF,JM]⟩
 |global g=>
  simp only[bF];cases hg:E.aF g with
  |none=>exact⟨.top,by simp⟩
  |some cs=>exact⟨.pv (h.aF g cs hg).rep,by simp⟩
 |func g=>
  simp only[bF];cases e:Nat.blt g Gp with
  |true=>refine⟨?_,by simp[V.has,cq]⟩;have:=aq.fn (P:=E.P) (μ:=μ) (φ:=φ) (f:=g) (cs:=[]) (xs:= #[]) (by simp) (by simp);rw[sY e]at this;exact this
  |false=>exact⟨.top,by simp⟩
variable{p:PV}
theorem mh{sz j:Nat}{q:PV}(h:(aM sz p)[j]?=some q):j<sz∧q=cell p j:=by
 unfold aM at h;have key:∀(n o j:Nat),(eh p o n)[j]?=some q→j<n∧q=cell p (o+j):=by
  intro n;induction n with
  |zero=>intro o j hj;simp[eh]at hj
  |succ n ih=>
   intro o j hj;cases j with
   |zero=>simp_all[eh]
   |succ j=>simp only[eh,apa]at hj;grind
 grind
theorem bj(sz:Nat)(p:PV):(aM sz p).length=sz:=by
 unfold aM;have:∀n o,(eh p o n).length=n:=by
  intro n;induction n with
  |zero=>intro o;rfl
  |succ n ih=>intro o;simp[eh,ih]
 exact this _ _
theorem fN{sz:Nat}(h:p.cells.length=sz):aM sz p=p.cells:=by
 apply anX;intro j;by_cases hj:j<sz
 ·have h1:j<(aM sz p).length:=by rw[bj];omega
  have h2:=mh (ta h1);rw[ta h1,h2.2,cell,List.getD_eq_getElem?_getD,ta (by omega)];rfl
 simp_all[aoE,bj]
theorem au.A5{P:Program}{μ:Ro}{n:Nat}{cs:List PV}{x:Value}(h:au P μ (.agg cs) x)(hn:cs.length=n):au P μ (.agg (aM n (.agg cs))) x:=by simp_all[fN,PV.cells]
variable{t:TypeId}{k:PV→Option R}
theorem mz{r:R}(h:ij E t p k=some r):∃q,(∀(R':Type)(k':PV→Option R'),ij E t p k'=k' q)∧k q=some r∧(∀(P:Program)(μ:Ro)x,au P μ p x→au P μ q x)∧q≠.bad∧(∀cs,q≠.aV cs)∧(aJ E.P t=false→∀cs,q≠.agg cs):=by
 unfold ij at h;split at h
 ·rename_i q hu;obtain⟨n,hn,hk⟩:=AI.1 h;have hp:p=.int q n:=by cases p<;>simp[asInt]at hn;simp_all
  grind [ij]
 ·rename_i hu;obtain⟨n,hn,hk⟩:=AI.1 h;have hp:p=.bool n:=by cases p<;>simp[asBool]at hn;subst hn;rfl
  grind [ij]
 ·rename_i hu;obtain⟨n,hn,hk⟩:=AI.1 h;have hp:p=.str n:=by cases p<;>simp[bt]at hn;subst hn;rfl
  grind [ij]
 ·rename_i e hu;obtain⟨es,hn,hk⟩:=AI.1 h;refine⟨.rs (aW E.P e) es,fun R' k'=>by simp[ij,hu,hn],hk,fun P μ x hx=>?_,by simp,by simp,by simp⟩;cases p<;>simp[ak]at hn;split at hn
  ·simp_all
  ·split at hn
   ·simp only[tb]at hn;subst hn;cases hx with
    |lV=>exact .lV
    |M9 h=>exact .M9 h
    |rs X h1 h2 _ _ _ _=>exact .M9 h2
   ·cases hn
 ·rename_i fs hu;obtain⟨u,hn,hk⟩:=AI.1 h;refine⟨_,fun R' k'=>by simp[ij,hu,hn],hk,fun P μ x hx=>?_,by simp,by simp,by simp[aJ,hu]⟩;cases p<;>simp[asAgg]at hn;exact hx.A5 hn
 ·rename_i n e hu;obtain⟨u,hn,hk⟩:=AI.1 h;refine⟨_,fun R' k'=>by simp[ij,hu,hn],hk,fun P μ x hx=>?_,by simp,by simp,by simp[aJ,hu]⟩;cases p<;>simp[asAgg]at hn;exact hx.A5 hn
 ·rename_i e hu;unfold lq at h;split at h
  ·exact⟨.oh,fun R' k'=>by simp[ij,hu,lq],h,fun P μ x hx=>hx,by simp,by simp,by simp⟩
  ·rename_i cs;split at h
   ·rename_i hn;refine⟨.rp (aM (aW E.P e) (.agg cs)),fun R' k'=>by simp[ij,hu,lq,hn],h,fun P μ x hx=>?_,by simp,by simp,by simp⟩;cases hx with
    | @rp _ b o X a1 a2 a3=>
     have hc:∀i q,(aM (aW E.P e) (.agg cs))[i]?=some q→cs[i]?=some q:=fun i q hq=>by
      have hi:=(IN.1 hq).1;rw[bj]at hi;obtain⟨_,h6⟩:=mh hq;rw[h6];have oa:i<cs.length:=by omega
      rw[ta oa];simp[cell,PV.cells,List.getD,ta oa]
     exact .rp X (fun i q hq=>a1 i q (hc i q hq)) (fun i q hq=>a2 i q (hc i q hq)) (fun i hi=>a3 i (by rw[bj]at hi;omega))
   ·cases h
  ·cases h
 ·rename_i kt et hu;unfold cS at h;grind [ij,cS]
 ·grind [ij]
 ·rename_i ms hu;obtain⟨n,hn,hk⟩:=AI.1 h;have hp:p=.Uu n:=by cases p<;>simp[Sr]at hn;subst hn;rfl
  grind [ij]
 ·cases h
theorem NH{v:V}{k:V→Option R}{r:R}(h:Cy E t v k=some r):∃u,(∀(R':Type)(k':V→Option R'),Cy E t v k'=k' u)∧k u=some r∧(∀(P:Program)(μ:Ro)(φ:Nat→aK)x,aq P μ φ v x→aq P μ φ u x)∧(∀id,u.has id=true→v.has id=true):=by
 unfold Cy at h;split at h
 ·obtain⟨q,h1,h2,h3,_⟩:=mz h;exact⟨.pv q,fun R' k'=>by simp[Cy,h1],h2,fun P μ φ x hx=>by cases hx with|pv hp=>exact .pv (h3 _ _ _ hp),by simp⟩
 ·cases h
 ·rename_i h1 h2;split at h
  ·rename_i hu;refine⟨v,fun R' k'=>?_,h,fun _ _ _ _ hx=>hx,fun _ h=>h⟩;unfold Cy;simp_all
  ·cases h
theorem yU{r:R}(h:ij E t p k=some r):∃d,E.P.underlying t=some d:=by unfold ij at h;grind
theorem JN{v:V}{k:V→Option R}{r:R}(h:Cy E t v k=some r):∃d,E.P.underlying t=some d:=by
 unfold Cy at h;split at h
 ·exact yU h
 ·cases h
 ·split at h
  ·rename_i hu;exact anK.1 hu
  ·cases h
end
section
variable {P:Program} {G:Nat→Option (List PV)} {w0:bl} {μ:Ro} {φ:Nat→aK} {m:Mem} {w:World}
variable{t:TypeId}{d:TypeDesc}
theorem E0(h:P.underlying t=some d):(P.info? t).map (·.size)=some (aW P t):=by grind [Program.underlying,aW]
theorem GM(h:aJ P t=true):∃d,P.underlying t=some d∧d.isRow=true:=by unfold aJ at h;grind
theorem D6(hu:P.underlying t=some d):(isAgg t).run P w=.ok (aJ P t) w:=by unfold isAgg;simp only[Sem.run_bind,run_underlying hu,Result.andThen_ok,aJ,hu];cases d<;>rfl
theorem E1(hu:P.underlying t=some d):(sizeOf t).run P w=.ok (aW P t) w:=by
 have:=E0 hu;cases hi:P.info? t with
 |none=>simp[hi]at this
 |some i=>simp[sizeOf,typeInfo,hi,aW]
variable{o:Nat}
theorem iP{b:Nat}{y:Value}(hu:P.underlying t=some d)(ha:aJ P t=false)(hc:w.cell? ⟨b,o,none⟩=some y):(Instr.loadAt t (.pointer (some ⟨b,o,none⟩))).run P w=.ok y w:=by simp only[Instr.loadAt,Instr.sureAddr,loadVar,Sem.run_bind,Sem.run_pure,Result.andThen_ok,D6 hu,ha];simp[load,Sem.run,hc]
theorem ow{b:Nat}{cs:List Value}(ha:aJ P t=true)(hc:w.rangeAt b o cs)(hl:cs.length=aW P t):(Instr.loadAt t (.pointer (some ⟨b,o,none⟩))).run P w=.ok (.agg cs.toArray) w:=by grind [GM,run_loadAt_mid,E0]
theorem aG.cellAt(hM:aG P G w0 μ φ m w){b o:Nat}{x:Value}(h:cellAt μ b o=some x):w.cell? ⟨b,o,none⟩=some x:=by
 unfold Go.Ab.cellAt at h;split at h
 ·rename_i c t fz hb;simp[World.cell?,hM.ro _ _ hb,h]
 ·cases h
theorem dB{g:Nat}{c:Array Value}{T:TypeId}{fz:Nat×Nat}(h:w.heap[g]?=some (.cells c T fz)):w.cell? ⟨g,o,none⟩=c[o]?:=by simp[World.cell?,h]
theorem iQ{T:Type}{l:List T}{n i:Nat}{x:T}(h:(l.take n)[i]?=some x):i<n∧l[i]?=some x:=by grind
theorem qz{T:Type}{l:List T}{n i:Nat}{x:T}(h:((l.drop o).take n)[i]?=some x):i<n∧l[o+i]?=some x:=by grind
theorem au.afa{cs:List PV}{b n:Nat}{X:Nat→Value}(hM:aG P G w0 μ φ m w)(h1:∀(i:Nat)p,cs[i]?=some p→Go.Ab.cellAt μ b (o+i)=some (X i))(h2:∀(i:Nat)p,cs[i]?=some p→au P μ p (X i))(h3:∀i:Nat,i<cs.length→(X i).oneCell'=true)(hn:n≤cs.length):w.rangeAt b o ((List.range n).map X)∧au P μ (.agg (cs.take n)) (.agg ((List.range n).map X).toArray):=by
 have hX:∀i x,((List.range n).map X)[i]?=some x→i<n∧x=X i:=by grind
 refine⟨fun j v hv=>?_,.agg (by simp;omega) (fun i p x hi hx=>?_) (fun i x hx=>?_)⟩
 ·obtain⟨hj,rfl⟩:=hX j v hv;exact hM.cellAt (h1 j _ (ta (by omega)))
 ·grind
 grind
end
section
variable {R:Type} {E:Env}
def Quiet(v:V)(m:Mem):Prop:=∀id,v.has id=true→(m id).isSome=true
variable{cs:List V}
theorem gJ{g:V→Option PV}{ps:List PV}(h:rF g cs=some ps):ps.length=cs.length∧∀(i:Nat)p,ps[i]?=some p→∃v,cs[i]?=some v∧g v=some p:=by
 induction cs generalizing ps with
 |nil=>simp[rF]at h;subst h;simp
 |cons c r ih=>simp only[rF]at h;obtain⟨p,hp,h⟩:=AI.1 h;obtain⟨ps',pS,h⟩:=AI.1 h;grind
variable{P:Program}{μ:Ro}{φ:Nat→aK}
theorem acF{xs:Array Value}(h:aq P μ φ (.agg cs) (.agg xs)):aq P μ φ (W7 cs) (.agg xs):=by
 unfold W7;split
 ·rename_i ps pS;obtain⟨f1,f2⟩:=gJ pS;cases h with
  |agg h1 h2 h3=>
   refine .pv (.agg (by omega) (fun i p x hi hx=>?_) h3);obtain⟨v,hv,hp⟩:=f2 i p hi;have hvp:v=.pv p:=by cases v<;>simp[vi]at hp;subst hp;rfl
   subst hvp;cases h2 i _ x hv hx with
   |pv h=>exact h
 ·exact h
variable{id:Nat}
theorem Xn(h:(W7 cs).has id=true):(V.agg cs).has id=true:=by
 unfold W7 at h;split at h
 ·simp[V.has]at h
 ·exact h
variable{s off:Nat}{t:TypeId}{e:PV}
theorem JO{k:V→Option R}{r:R}(h:vh E s t e off k=some r):∃v,(∀(R':Type)(k':V→Option R'),vh E s t e off k'=k' v)∧k v=some r∧(∀id,v.has id=false)∧∀(μ:Ro)(φ:Nat→aK)(w:World)(g o:Nat)(c:Array Value)(T:TypeId),w.heap[g]?=some (.cells c T (0,0))→e.cells.length=s→(∀(j:Nat)p x,e.cells[j]?=some p→c[o+j]?=some x→au E.P μ p x)→(∀(i:Nat)(x:Value),i<o+s→c[i]?=some x→x.oneCell'=true)→o+s≤c.size→∃y,(Instr.loadAt t (.pointer (some ⟨g,o+off,none⟩))).run E.P w=.ok y w∧aq E.P μ φ v y:=by
 unfold vh at h;split at h
 ·rename_i ha;split at h
  ·rename_i hb;refine⟨_,fun R' k'=>by simp[vh,ha,hb],h,by simp,fun μ φ w g o c T hg hs hc h1 hl=>?_⟩;have hR:w.rangeAt g (o+off) ((c.toList.drop (o+off)).take (aW E.P t)):=fun j v hv=>by grind [qz,dB]
   refine⟨_,ow ha hR (by simp;omega),.pv (.agg (by simp[bj];omega) (fun i p x hi hx=>?_) (fun i x hx=>?_))⟩
   ·grind [qz,fN,Nat.add_assoc]
   grind
  ·cases h
 ·rename_i ha;have ha:aJ E.P t=false:=by simpa using ha
  split at h
  ·rename_i p hp;obtain⟨q,h1,h2,h3,_⟩:=mz h;obtain⟨d,hu⟩:=yU h;refine⟨.pv q,fun R' k'=>by simp[vh,ha,hp,h1],h2,by simp,fun μ φ w g o c T hg hs hc _ hl=>?_⟩;rw[fN hs]at hp;have Uy:off<e.cells.length:=(IN.1 hp).1;have hx:c[o+off]?=some c[o+off]:=T1 (by omega);exact⟨_,iP hu ha (by rw[dB hg];omega),.pv (h3 _ _ _ (hc off p _ hp hx))⟩
  ·cases h
variable{p:PV}
theorem Uz{k:PV→Option R}{r:R}(h:ij E t p k=some r):p.isRow=false∧p≠.bad:=by
 cases p with
 |jr s es=>exfalso;unfold ij at h;split at h<;>simp[asInt,asBool,bt,ak,asAgg,Sr,cS,lq]at h
 |bad=>exfalso;unfold ij at h;split at h<;>simp[asInt,asBool,bt,ak,asAgg,Sr,cS,lq]at h
 |_=>exact⟨rfl,by simp⟩
theorem JP(h:cell e off=p)(hp:p≠.bad):e.cells[off]?=some p:=by grind [cell,absurd]
theorem NI{rs:List PV}(h:bW s p=some rs):p=.jr s rs:=by unfold bW at h;grind
variable{w:World}{et:TypeId}{es:List PV}{i:Nat}
theorem bg.cell{sz:Nat}(h:bg P μ φ w id sz et es){g:Nat}(hg:(φ id).g=some g)(he:es[i]?=some e)(hp:e.cells[off]?=some p):∃c T x,w.heap[g]?=some (.cells c T (0,0))∧c[i*sz+off]?=some x∧eH P μ ((φ id).row i off) w p x∧x.oneCell'=true:=by
 obtain⟨a1,a2,a3,a4,a5,a6,a7⟩:=h;rw[hg]at a7;obtain⟨c,T,c1,c2,c3,c4,c5⟩:=a7;have hi:i<es.length:=(IN.1 he).1;have ho:off<sz:=by grind
 have h1:(i+1)*sz≤es.length*sz:=amt _ (by omega);have h2:es.length*sz≤(φ id).cap*sz:=amt _ c3;rw[aoo]at h1;have bK:i*sz+off<c.size:=by omega
 exact⟨c,T,c[i*sz+off],c1,T1 bK,c4 i e off p _ he hp (T1 bK),c5 (i*sz+off) _ (by omega) (T1 bK)⟩
theorem bg.row{sz:Nat}(h:bg P μ φ w id sz et es){rs:List PV}(he:es[i]?=some e)(hr:bW s (Go.Ab.cell e off)=some rs):∃g x,(φ id).g=some g∧w.cell? ⟨g,i*sz+off,none⟩=some x∧fb P μ ((φ id).row i off) w s rs x∧e.cells[off]?=some (.jr s rs):=by
 have hp:=JP (NI hr) (by simp);cases hg:(φ id).g with
 |none=>obtain⟨a1,a2,a3,a4,a5,a6,a7⟩:=h;simp_all
 |some g=>obtain⟨c,_,x,c1,c2,c3,_⟩:=h.cell hg he hp;exact⟨g,x,rfl,by rw[dB c1];omega,c3,hp⟩
theorem aq.afb{ν:Ro}{x:Value}(h:aq P μ (fun _=>((φ id).row i off).up) (.os 0) x):aq P ν φ (.yK id i off) x:=by
 cases h with
 |ux h=>exact .Lk h
 |os h=>exact .yK h
theorem aq.Qx{ν:Ro}{x:Value}(h:aq P μ φ (.yK id i off) x):aq P ν (fun _=>((φ id).row i off).up) (.os 0) x:=by
 cases h with
 |Lk h=>exact .ux h
 |yK h=>exact .os (id:=0) (φ:=fun _=>((φ id).row i off).up) h
theorem JQ{s:Nat}:∀{es:List PV}{k:Nat}{p:PV},(Cw s es)[k]?=some p→∃i j e,k=i*s+j∧j<s∧es[i]?=some e∧(aM s e)[j]?=some p
 |[],k,p,h=>by simp[Cw]at h
 |e::es,k,p,h=>by
  simp only[Cw]at h;rw[an6,bj]at h;split at h
  ·exact⟨0,k,e,by omega,‹_›,rfl,h⟩
  ·obtain⟨i,j,e',h1,h2,h3,h4⟩:=JQ h;exact⟨i+1,j,e',by rw[aoo];omega,h2,by simpa using h3,h4⟩
theorem JR{s:Nat}:∀{es:List PV},(Cw s es).length=es.length*s
 |[]=>by simp[Cw]
 |e::es=>by simp only[Cw,anD,bj,JR,alx,aoo];omega
theorem JS(h:DT E t s i off=true):aJ E.P t=true∧i=0∧off=0∧∃n e,E.P.underlying t=some (.array n e)∧aW E.P e=s∧aJ E.P e=true:=by
 unfold DT at h;split at h
 ·rename_i n e hu;simp only[OF]at h;grind [aJ,Nat.eq_of_beq_eq_true]
 ·cases h
theorem aP.whole(hA:aP P μ φ w id s et es){g:Nat}(hg:(φ id).g=some g):∃xs:List Value,xs.length=es.length*s∧w.rangeAt g 0 xs∧au P μ (.agg (Cw s es)) (.agg xs.toArray):=by
 obtain⟨a1,a2,a3,a4,a5,a6,a7⟩:=hA;rw[hg]at a7;obtain⟨c,T,c1,c2,c3,c4,c5⟩:=a7;have hle:es.length*s≤c.size:=anW (amt _ c3) c2;refine⟨c.toList.take (es.length*s),by simp;omega,fun j v hv=>?_,.agg (by rw[JR];simp;omega) (fun k p x hp hx=>?_) (fun k x hx=>?_)⟩
 ·grind [dB]
 ·obtain⟨i,j,e,rfl,hj,he,hp⟩:=JQ hp;grind [fN]
 grind
theorem GI{own:Bool}{a:V}{m:Mem}{k:V→bx→Option R}{r:R}(h:si E own t a m k=some r):∃v ft,(∀m2:Mem,(∀x∈ft,m2 x.2=m x.2)→∀(R':Type)(k':V→bx→Option R'),si E own t a m2 k'=k' v ft)∧k v ft=some r∧(∀x∈ft,x.1=false)∧∀(G:Nat→Option (List PV))(w0:bl)(μ:Ro)(φ:Nat→aK)(w:World)(x:Value),aG E.P G w0 μ φ m w→aq E.P μ φ a x→∃y,(Instr.loadAt t x).run E.P w=.ok y w∧aq E.P μ φ v y∧Quiet v m:=by
 unfold si at h;split at h
 ·rename_i cs;split at h
  ·rename_i ha;split at h
   ·rename_i hn;refine⟨_,_,fun m2 _ R' k'=>by simp[si,ha,hn],h,by simp,fun G w0 μ φ w x hM hx=>?_⟩;cases hx with
    |pv hp=>cases hp with
     |rp X h1 h2 h3=>obtain⟨hr,hv⟩:=au.afa hM h1 h2 h3 hn;exact⟨_,ow ha hr (by simp),.pv hv,by simp[Quiet]⟩
   ·cases h
  ·rename_i ha;have ha:aJ E.P t=false:=by simpa using ha
   obtain⟨p,JT,h⟩:=AI.1 h;have hp1:cs[0]?=some p:=by simp_all[apJ]
   obtain⟨q,h1,h2,h3,_⟩:=mz h;refine⟨_,_,fun m2 _ R' k'=>by simp[si,ha,JT,h1],h2,by simp,fun G w0 μ φ w x hM hx=>?_⟩;obtain⟨d,hu⟩:=yU h;cases hx with
   |pv hp=>cases hp with
    |rp X g1 g2 g3=>have hc:=hM.cellAt (g1 0 p hp1);exact⟨_,iP hu ha (by omega),.pv (h3 _ _ _ (g2 0 p hp1)),by simp[Quiet]⟩
 ·rename_i id off;split at h
  ·rename_i cs hm;split at h
   ·rename_i ha;split at h
    ·rename_i hn;refine⟨_,_,fun m2 cQ R' k'=>by simp[si,ha,hn,cQ (false,id) (by simp),hm],h,by simp,fun G w0 μ φ w x hM hx=>?_⟩;cases hx with
     | @op _ _ g hg=>
      obtain⟨g',c,T,cV,hh,hs,hv,h1,Jf⟩:=hM.dF id _ hm;rw[hg]at cV;simp only[tb]at cV;subst cV;have hR:w.rangeAt g off ((c.toList.drop off).take (aW E.P t)):=fun j v hv=>by grind [qz,dB]
      refine⟨_,ow ha hR (by simp;omega),acF (.agg (by simp;omega) (fun i p x hi hx=>?_) (fun i x hx=>?_)),?_⟩
      ·grind
      ·grind
      ·intro uv hid;have hid:=Xn hid;simp only[V.has]at hid;obtain⟨v,hv,hh⟩:=cT.1 hid;exact hM.fJ id cs uv hm (bO (ao3 (aox hv)) hh)
    ·cases h
   ·rename_i ha;have ha:aJ E.P t=false:=by simpa using ha
    split at h
    ·rename_i ps pS;obtain⟨p,JT,h⟩:=AI.1 h;obtain⟨q,h1,h2,h3,_⟩:=mz h;refine⟨_,_,fun m2 cQ R' k'=>by simp[si,ha,cQ (false,id) (by simp),hm,pS,JT,h1],h2,by simp,fun G w0 μ φ w x hM hx=>?_⟩;cases hx with
     | @op _ _ g hg=>
      obtain⟨g',c,T,cV,hh,hs,hvv,_⟩:=hM.dF id _ hm;rw[hg]at cV;simp only[tb]at cV;subst cV;obtain⟨f1,f2⟩:=gJ pS;obtain⟨bK,hp1⟩:=IN.1 JT;have Uy:off<cs.length:=by omega
      obtain⟨v,hv,pQ⟩:=f2 off p JT;have hvp:v=.pv p:=by cases v<;>simp[vi]at pQ;subst pQ;rfl
      subst hvp;have hx:c[off]?=some c[off]:=T1 (by omega);obtain⟨d,hu⟩:=yU h;have hr:=hvv off _ _ hv hx;cases hr with
      |pv hr=>exact⟨_,iP hu ha (by rw[dB hh];omega),.pv (h3 _ _ _ hr),by simp[Quiet]⟩
    ·rename_i hnp;split at h
     ·rename_i v hv;obtain⟨u,h1,h2,h3,h4⟩:=NH h;refine⟨_,_,fun m2 cQ R' k'=>by simp[si,ha,cQ (false,id) (by simp),hm,hnp,hv,h1],h2,by simp,fun G w0 μ φ w x hM hx=>?_⟩;cases hx with
      | @op _ _ g hg=>obtain⟨g',c,T,cV,hh,hs,hvv,_⟩:=hM.dF id _ hm;rw[hg]at cV;simp only[tb]at cV;subst cV;have Uy:off<cs.length:=(IN.1 hv).1;have hx:c[off]?=some c[off]:=T1 (by omega);obtain⟨d,hu⟩:=JN h;refine⟨_,iP hu ha (by rw[dB hh];omega),h3 _ _ _ _ (hvv off v _ hv hx),fun uv hid=>?_⟩;exact hM.fJ id cs uv hm (bO (amq hv) (h4 uv hid))
     ·cases h
  ·cases h
 ·rename_i id i off;have key:∀(sz:Nat)(et:TypeId)(es:List PV),(m id=some (.arr sz et es)∨m id=some (.rE sz et es))→((es[i]?).bind fun e=>vh E sz t e off fun v=>k v [(false,id)])=some r→∃v,(∀(R':Type)(k':V→bx→Option R'),((es[i]?).bind fun e=>vh E sz t e off fun v=>k' v [(false,id)])=k' v [(false,id)])∧k v [(false,id)]=some r∧∀(G:Nat→Option (List PV))(w0:bl)(μ:Ro)(φ:Nat→aK)(w:World)(x:Value),aG E.P G w0 μ φ m w→aq E.P μ φ (.oe id i off) x→∃y,(Instr.loadAt t x).run E.P w=.ok y w∧aq E.P μ φ v y∧Quiet v m:=by
   intro sz et es hm hb;obtain⟨e,he,hb⟩:=AI.1 hb;obtain⟨v,h1,h2,h3,h4⟩:=JO hb;refine⟨v,fun R' k'=>by simp[he,h1],h2,fun G w0 μ φ w x hM hx=>?_⟩;have hA:aP E.P μ φ w id sz et es:=by
    rcases hm with hm|hm
    ·exact hM.dF id _ hm
    ·exact(hM.dF id _ hm).1
   cases hx with
   | @oe _ _ _ g hg=>
    obtain⟨a1,a2,a3,a4,a5,a6,a7⟩:=hA;rw[hg]at a7;obtain⟨c,T,c1,c2,c3,c4,c5⟩:=a7;have hi:i<es.length:=(IN.1 he).1;obtain⟨y,hy,hv⟩:=h4 μ φ w g (i*sz) c T c1 (a5 i e he) (fun j p x hj hx=>c4 i e j p x he hj hx) (fun i' x oa hx=>c5 i' x (by
     have:(i+1)*sz≤es.length*sz:=amt _ (by omega);grind) hx) (by
     have:(i+1)*sz≤(φ id).cap*sz:=amt _ (by omega);grind)
    rw[a2];exact⟨y,hy,hv,fun id hid=>by simp_all⟩
  split at h
  ·rename_i sz et es hm;cases hw:DT E t sz i off with
   |true=>
    rw[hw]at h;simp only[cond_true]at h;split at h
    ·rename_i hl;obtain⟨ha,rfl,rfl,_⟩:=JS hw;refine⟨_,_,fun m2 cQ R' k'=>by have:=cQ (false,id) (by simp);simp_all[si,cond_true,BY],h,by simp,fun G w0 μ φ w x hM hx=>?_⟩;have hA:aP E.P μ φ w id sz et es:=hM.dF id _ hm;cases hx with
     | @oe _ _ _ g hg=>obtain⟨xs,x1,x2,x3⟩:=hA.whole hg;rw[aqV];exact⟨_,ow ha x2 (by omega),.pv x3,by simp[Quiet]⟩
    ·cases h
   |false=>rw[hw]at h;obtain⟨v,h1,h2,h3⟩:=key sz et es (.inl hm) h;exact⟨v,_,fun m2 cQ R' k'=>by have:=cQ (false,id) (by simp);simp_all[si,cond_false],h2,by simp,h3⟩
  ·rename_i sz et es hm;obtain⟨v,h1,h2,h3⟩:=key sz et es (.inr hm) h;exact⟨v,_,fun m2 cQ R' k'=>by have:=cQ (false,id) (by simp);simp_all[si],h2,by simp,h3⟩
  ·rename_i sz et es hm;split at h
   ·cases h
   ·rename_i ha;obtain⟨e,he,h⟩:=AI.1 h;have ha':aJ E.P t=false:=by simpa using ha
    split at h
    ·rename_i ho;split at h
     ·rename_i I4 hu;obtain⟨rs,hr,h⟩:=AI.1 h;refine⟨_,_,fun m2 cQ R' k'=>by have:=cQ (false,id) (by simp);simp_all[si,IT,anC,IS],h,by simp,fun G w0 μ φ w x hM hx=>?_⟩;have hN:bg E.P μ φ w id sz et es:=hM.dF id _ hm;obtain⟨g,y,hg,hc,mT,_⟩:=hN.row he hr;cases hx with
      |oe cV=>rw[hg]at cV;simp only[tb]at cV;subst cV;rw[hN.2.1];refine⟨y,iP hu ha' hc,.afb mT.2,fun j hj=>?_⟩;have:=K5 hj;subst this;rw[hm];rfl
     ·cases h
    ·rename_i ho;obtain⟨q,h1,h2,h3,_⟩:=mz h;obtain⟨hq1,Xo⟩:=Uz h;obtain⟨d,hu⟩:=yU h;refine⟨_,_,fun m2 cQ R' k'=>by have:=cQ (false,id) (by simp);simp_all[si,IT,anC,PS,tc],h2,by simp,fun G w0 μ φ w x hM hx=>?_⟩;have hN:bg E.P μ φ w id sz et es:=hM.dF id _ hm;cases hx with
     |oe hg=>obtain⟨c,_,y,c1,c2,c3,_⟩:=hN.cell hg he (JP rfl Xo);rw[hN.2.1];exact⟨y,iP hu ha' (by rw[dB c1];omega),.pv (h3 _ _ _ (c3.Sx hq1)),by simp[Quiet]⟩
  ·cases h
 ·rename_i id i off s j off2;split at h
  ·rename_i sz et es hm;obtain⟨e,he,h⟩:=AI.1 h;obtain⟨rs,hr,h⟩:=AI.1 h;obtain⟨q,hq,h⟩:=AI.1 h;obtain⟨v,h1,h2,h3,h4⟩:=JO h;refine⟨v,_,fun m2 cQ R' k'=>by have:=cQ (false,id) (by simp);simp_all[si,anC],h2,by simp,fun G w0 μ φ w x hM hx=>?_⟩;have hN:bg E.P μ φ w id sz et es:=hM.dF id _ hm;obtain⟨g,y,hg,hc,⟨⟨I4,hA⟩,hV⟩,_⟩:=hN.row he hr;cases hx with
   | @Cv _ _ _ _ _ _ g' cV hs=>obtain⟨a1,a2,a3,a4,a5,a6,a7⟩:=hA;have hgu:((φ id).row i off).up.g=some g':=cV;rw[hgu]at a7;obtain⟨c,T,c1,c2,c3,c4,c5⟩:=a7;have hj:j<rs.length:=(IN.1 hq).1;have e1:(j+1)*s≤rs.length*s:=amt _ (by omega);have e2:rs.length*s≤((φ id).row i off).up.cap*s:=amt _ c3;have e3:((φ id).row i off).up.cap*s≤c.size:=c2;rw[aoo]at e1;obtain⟨y,hy,hv⟩:=h4 μ φ w g' (j*s) c T c1 (a5 j q hq) (fun l p x hl hx=>c4 j q l p x hq hl hx) (fun i' x oa hx=>c5 i' x (by omega) hx) (by omega);exact⟨y,hy,hv,fun id hid=>by simp_all⟩
  ·cases h
 ·cases h
end
section
variable {R:Type} {E:Env}
variable{s t:TypeId}{j o:Nat}
theorem E2(h:Cz E s j=some (o,t)):∃fs f,E.P.underlying s=some (.struct fs)∧fs[j]?=some f∧f.offset=o∧f.type=t∧aW E.P t≠0:=by unfold Cz at h;grind
variable{P:Program}
theorem Ak(h:aW P t≠0):∃i,P.info? t=some i∧i.size=aW P t:=by
 unfold aW at*;cases hi:P.info? t with
 |none=>simp[hi]at h
 |some i=>simp
variable{w:World}
theorem jZ(h:aW P t≠0):(sizeOf t).run P w=.ok (aW P t) w:=by obtain⟨i,hi,hs⟩:=Ak h;simp[sizeOf,typeInfo,hi,hs]
theorem uG{fs:Array Field}{f:Field}{b:Nat}(hu:P.underlying s=some (.struct fs))(hf:fs[j]?=some f)(hz:aW P f.type≠0):(Instr.fieldAt s (.pointer (some ⟨b,o,none⟩)) j).run P w=.ok (.pointer (some ⟨b,o+f.offset,none⟩)) w:=by simp_all[Instr.fieldAt,run_underlying,Instr.sureAddr,fieldPlace,jZ,Addr.add_mid]
theorem wo{T:Type}{l:List T}{i:Nat}{x:T}(h:(l.drop o)[i]?=some x):l[o+i]?=some x:=by simp_all
theorem au.Ll{μ:Ro}{cs:List PV}{b:Nat}(n:Nat)(h:au P μ (.rp cs) (.pointer (some ⟨b,o,none⟩))):au P μ (.rp (cs.drop n)) (.pointer (some ⟨b,o+n,none⟩)):=by
 cases h with
 |rp X h1 h2 h3=>
  refine .rp (fun i=>X (n+i)) (fun i p hi=>?_) (fun i p hi=>h2 _ p (wo hi)) (fun i hi=>h3 _ ?_)
  ·grind
  ·simp at hi;omega
variable{x:V}{k:V→Option R}{r:R}
theorem A6(h:kO E s x j k=some r):∃v,(∀(R':Type)(k':V→Option R'),kO E s x j k'=k' v)∧k v=some r∧(∀id,v.has id=x.has id)∧∀(μ:Ro)(φ:Nat→aK)(w:World)(y:Value),aq E.P μ φ x y→∃z,(Instr.fieldAt s y j).run E.P w=.ok z w∧aq E.P μ φ v z:=by
 unfold kO at h;split at h
 ·rename_i o t ho;obtain⟨fs,f,hu,hf,rfl,rfl,hz⟩:=E2 ho;split at h
  ·rename_i cs;refine⟨_,fun R' k'=>by simp[kO,ho],h,by simp,fun μ φ w y hy=>?_⟩;cases hy with
   |pv hp=>cases hp with
    |rp X h1 h2 h3=>exact⟨_,uG hu hf hz,.pv (au.Ll _ (.rp X h1 h2 h3))⟩
  ·rename_i id off;refine⟨_,fun R' k'=>by simp[kO,ho],h,by simp[V.has],fun μ φ w y hy=>?_⟩;cases hy with
   |op hg=>exact⟨_,uG hu hf hz,.op hg⟩
  ·rename_i id i off;refine⟨_,fun R' k'=>by simp[kO,ho],h,by simp[V.has],fun μ φ w y hy=>?_⟩;cases hy with
   |oe hg=>exact⟨_,uG hu hf hz,by rw[aol];exact .oe hg⟩
  ·refine⟨_,fun R' k'=>by simp[kO,ho],h,by simp[V.has],fun μ φ w y hy=>?_⟩;cases hy with
   |Cv hg hs=>exact⟨_,uG hu hf hz,by rw[aol];exact .Cv hg hs⟩
  ·cases h
 ·cases h
theorem iR{e:TypeId}{q:IntKind}{i:Int}{ad:Addr}{len cap:Nat}(hu:P.underlying t=some (.slice e))(hz:aW P e≠0)(h0:0≤i)(h1:i<(len:Int)):(Instr.indexAt t (.slice (some ad) len cap) (.int q i)).run P w=.ok (.pointer (some (ad.add (i.toNat*aW P e)))) w:=by simp[Instr.indexAt,asIntOf,run_underlying hu,h0,h1,jZ hz]
theorem mA{e:TypeId}{n:Nat}{q:IntKind}{i:Int}{ad:Addr}(hu:P.underlying t=some (.array n e))(hz:aW P e≠0)(h0:0≤i)(h1:i<(n:Int)):(Instr.indexAt t (.pointer (some ad)) (.int q i)).run P w=.ok (.pointer (some (ad.add (i.toNat*aW P e)))) w:=by simp[Instr.indexAt,asIntOf,run_underlying hu,h0,h1,jZ hz,Instr.sureAddr]
theorem acG{es:List PV}{i:Int}{p:PV}(h:yB es i=some p):0≤i∧es[i.toNat]?=some p∧i<(es.length:Int):=by grind [yB]
theorem au.Sz{μ:Ro}{sz:Nat}{es:List PV}{x:Value}{n:Nat}{p:PV}(h:au P μ (.rs sz es) x)(hp:es[n]?=some p):∃b o cap,x=.slice (some ⟨b,o,none⟩) es.length cap∧au P μ (.rp (aM sz p)) (.pointer (some ⟨b,o+n*sz,none⟩)):=by
 cases h with
 |lV=>simp at hp
 |M9 _=>simp at hp
 | @rs _ _ b o cap X h1 h2 h3 h4 h5 h6=>refine⟨b,o,cap,rfl,?_⟩;rw[fN (h3 n p hp)];exact .rp (X n) (fun i q hi=>h4 n p i q hp hi) (fun i q hi=>h5 n p i q hp hi) (fun i hi=>h6 n p i _ hp (ta hi))
theorem Jg{ix:V}{m:Mem}{k:V→bx→Option R}(h:du E t x ix m k=some r):∃v ft,(∀m2:Mem,(∀x∈ft,m2 x.2=m x.2)→∀(R':Type)(k':V→bx→Option R'),du E t x ix m2 k'=k' v ft)∧k v ft=some r∧(∀x∈ft,x.1=false)∧(∀id,v.has id=true→x.has id=true)∧∀(G:Nat→Option (List PV))(w0:bl)(μ:Ro)(φ:Nat→aK)(w:World)(y z:Value),aG E.P G w0 μ φ m w→aq E.P μ φ x y→aq E.P μ φ ix z→∃u,(Instr.indexAt t y z).run E.P w=.ok u w∧aq E.P μ φ v u:=by
 unfold du at h;split at h
 ·rename_i q i;split at h
  ·rename_i e s es hu;split at h
   ·rename_i hs;obtain⟨p,hp,hk⟩:=AI.1 h;refine⟨_,_,fun m2 _ R' k'=>by simp only[du,hu];rw[BY hs,hp];rfl,hk,by simp,by simp,fun G w0 μ φ w y z hM hy hz=>?_⟩;obtain⟨h0,hp,hl⟩:=acG hp;cases hz with
    |pv hz=>cases hz with
     |int JU=>
      cases hy with
      |pv hy=>obtain⟨b,o,cap,rfl,hr⟩:=hy.Sz hp;refine⟨_,iR hu (by omega) h0 hl,?_⟩;rw[Addr.add_mid,←hs.1];exact .pv hr
   ·cases h
  ·rename_i e id hu;have key:∀(s:Nat)(et:TypeId)(es:List PV),(m id=some (.arr s et es)∨m id=some (.rE s et es))→s=aW E.P e∧0<s→aC i es.length→∀(G:Nat→Option (List PV))(w0:bl)(μ:Ro)(φ:Nat→aK)(w:World)(y z:Value),aG E.P G w0 μ φ m w→aq E.P μ φ (.os id) y→aq E.P μ φ (.pv (.int q i)) z→∃u,(Instr.indexAt t y z).run E.P w=.ok u w∧aq E.P μ φ (.oe id i.toNat 0) u:=by
    intro s et es hm hs hr G w0 μ φ w y z hM hy hz;have hA:aP E.P μ φ w id s et es:=by
     rcases hm with hm|hm
     ·exact hM.dF id _ hm
     ·exact(hM.dF id _ hm).1
    obtain⟨a1,a2,a3,a4,a5,a6,a7⟩:=hA;cases hz with
    |pv hz=>cases hz with
     |int JU=>
      cases hy with
      |ux hg=>grind [aC]
      | @os _ g hg=>refine⟨_,iR hu (by omega) hr.1 (by rw[a1];exact hr.2),?_⟩;rw[Addr.add_mid];have:=aq.oe (P:=E.P) (μ:=μ) (φ:=φ) (id:=id) (i:=i.toNat) (off:=0) hg;simp_all
   split at h
   ·rename_i s et es hm;split at h
    ·rename_i hs;split at h
     ·rename_i hr;exact⟨_,_,fun m2 cQ R' k'=>by have:=cQ (false,id) (by simp);simp only at this;simp only[du,hu,this,hm];grind,h,by simp,by simp[V.has],key s et es (.inl hm) hs hr⟩
     ·cases h
    ·cases h
   ·rename_i s et es hm;split at h
    ·rename_i hs;split at h
     ·rename_i hr;exact⟨_,_,fun m2 cQ R' k'=>by have:=cQ (false,id) (by simp);simp only at this;simp only[du,hu,this,hm];grind,h,by simp,by simp[V.has],key s et es (.inr hm) hs hr⟩
     ·cases h
    ·cases h
   ·rename_i s et es hm;split at h
    ·rename_i hs;split at h
     ·rename_i hr;refine⟨_,_,fun m2 cQ R' k'=>by have:=cQ (false,id) (by simp);simp only at this;simp only[du,hu,this,hm];grind,h,by simp,by simp[V.has],fun G w0 μ φ w y z hM hy hz=>?_⟩;have hA:bg E.P μ φ w id s et es:=hM.dF id _ hm;obtain⟨a1,a2,a3,a4,a5,a6,a7⟩:=hA;cases hz with
      |pv hz=>cases hz with
       |int JU=>
        cases hy with
        |ux hg=>grind [aC]
        | @os _ g hg=>refine⟨_,iR hu (by omega) hr.1 (by rw[a1];exact hr.2),?_⟩;rw[Addr.add_mid];have:=aq.oe (P:=E.P) (μ:=μ) (φ:=φ) (id:=id) (i:=i.toNat) (off:=0) hg;simp_all
     ·cases h
    ·cases h
   ·rename_i cs hm;split at h
    ·rename_i hs;refine⟨_,_,fun m2 cQ R' k'=>by have:=cQ (false,id) (by simp);simp_all[du,BY],h,by simp,by simp[V.has],fun G w0 μ φ w y z hM hy hz=>?_⟩;obtain⟨g,c,T,hg,hh,n9,hv,wq,Jf⟩:=hM.dF id _ hm;cases hz with
     |pv hz=>cases hz with
      |int JU=>
       cases hy with
       |ux cV=>simp_all
       | @os _ g' cV=>refine⟨_,iR hu (by omega) hs.2.1 (by rw[Jf];exact hs.2.2),?_⟩;rw[Addr.add_mid,hs.1];have:=aq.op (P:=E.P) (μ:=μ) (φ:=φ) (id:=id) (off:=i.toNat) cV;simpa using this
    ·cases h
   ·cases h
  ·rename_i e id i0 off hu;split at h
   ·rename_i s0 et0 es hm;split at h
    ·rename_i eO;obtain⟨e0,he,h⟩:=AI.1 h;obtain⟨rs,Ln,h⟩:=AI.1 h;split at h
     ·rename_i hr;refine⟨_,_,fun m2 cQ R' k'=>by have:=cQ (false,id) (by simp);simp_all[du,BY,anC],h,by simp,by simp[V.has],fun G w0 μ φ w y z hM hy hz=>?_⟩;have hN:bg E.P μ φ w id s0 et0 es:=hM.dF id _ hm;obtain⟨_,_,_,_,⟨⟨I4,hA⟩,_⟩,_⟩:=hN.row he Ln;obtain⟨a1,a2,a3,a4,a5,a6,a7⟩:=hA;cases hz with
      |pv hz=>cases hz with
       |int JU=>
        cases hy with
        |Lk hg=>have cV:((φ id).row i0 off).up.g=none:=hg;simp_all[aC]
        | @yK _ _ _ g hg=>have a1':((φ id).row i0 off).len=rs.length:=a1;refine⟨_,iR hu (by omega) hr.1 (by rw[a1'];exact hr.2),?_⟩;rw[Addr.add_mid];have:=aq.Cv (P:=E.P) (μ:=μ) (φ:=φ) (id:=id) (i:=i0) (off:=off) (s:=aW E.P e) (j:=i.toNat) (off2:=0) hg a2;simpa using this
     ·cases h
    ·cases h
   ·cases h
  ·rename_i e id lo len hu;have key:∀(s:Nat)(et:TypeId)(es:List PV),(m id=some (.arr s et es)∨m id=some (.rE s et es))→s=aW E.P e∧0<s→aC i len→∀(G:Nat→Option (List PV))(w0:bl)(μ:Ro)(φ:Nat→aK)(w:World)(y z:Value),aG E.P G w0 μ φ m w→aq E.P μ φ (.fX id lo len) y→aq E.P μ φ (.pv (.int q i)) z→∃u,(Instr.indexAt t y z).run E.P w=.ok u w∧aq E.P μ φ (.oe id (lo+i.toNat) 0) u:=by
    intro s et es hm hs hr G w0 μ φ w y z hM hy hz;have hA:aP E.P μ φ w id s et es:=by
     rcases hm with hm|hm
     ·exact hM.dF id _ hm
     ·exact(hM.dF id _ hm).1
    obtain⟨a1,a2,a3,a4,a5,a6,a7⟩:=hA;cases hz with
    |pv hz=>cases hz with
     |int JU=>
      cases hy with
      |sX hg=>simp[aC]at hr;omega
      | @fX _ _ _ FT g ad hg hl ha hc1 Na=>
       have ha:=ha.resolve_right fun hh=>by have:=hr.1;have:=hr.2;omega
       subst ha;refine⟨_,iR hu (by omega) hr.1 hr.2,?_⟩;rw[Addr.add_mid];have:=aq.oe (P:=E.P) (μ:=μ) (φ:=φ) (id:=id) (i:=lo+i.toNat) (off:=0) hg;grind
   split at h
   ·rename_i s et es hm;split at h
    ·rename_i hs;split at h
     ·rename_i hr;exact⟨_,_,fun m2 cQ R' k'=>by have:=cQ (false,id) (by simp);simp only at this;simp only[du,hu,this,hm];grind,h,by simp,by simp[V.has],key s et es (.inl hm) hs hr⟩
     ·cases h
    ·cases h
   ·rename_i s et es hm;split at h
    ·rename_i hs;split at h
     ·rename_i hr;exact⟨_,_,fun m2 cQ R' k'=>by have:=cQ (false,id) (by simp);simp only at this;simp only[du,hu,this,hm];grind,h,by simp,by simp[V.has],key s et es (.inr hm) hs hr⟩
     ·cases h
    ·cases h
   ·cases h
  ·rename_i n e id off hu;split at h
   ·rename_i hr;refine⟨_,_,fun m2 _ R' k'=>by simp_all[du,BY],h,by simp,by simp[V.has],fun G w0 μ φ w y z hM hy hz=>?_⟩;cases hz with
    |pv hz=>cases hz with
     |int JU=>
      cases hy with
      |op hg=>exact⟨_,mA hu (by omega) hr.1.1 hr.1.2,by rw[Addr.add_mid];exact .op hg⟩
   ·cases h
  ·rename_i n e cs hu;split at h
   ·rename_i hr;refine⟨_,_,fun m2 _ R' k'=>by simp_all[du,BY],h,by simp,by simp,fun G w0 μ φ w y z hM hy hz=>?_⟩;cases hz with
    |pv hz=>cases hz with
     |int JU=>
      cases hy with
      |pv hy=>cases hy with
       |rp X h1 h2 h3=>exact⟨_,mA hu (by omega) hr.1.1 hr.1.2,by rw[Addr.add_mid];exact .pv (au.Ll _ (.rp X h1 h2 h3))⟩
   ·cases h
  ·rename_i n e id j off hu;split at h
   ·rename_i hr;split at h
    ·rename_i hb;refine⟨_,_,fun m2 cQ R' k'=>by have:=cQ (false,id) (by simp);simp_all[du,BY],h,by simp,by simp[V.has],fun G w0 μ φ w y z hM hy hz=>?_⟩;have n9:(φ id).sz=aW E.P e:=by
      split at hb
      ·rename_i s et es hm;rw[K5 hb];have hA:aP E.P μ φ w id s et es:=hM.dF id _ hm;exact hA.2.1
      ·cases hb
     cases hz with
     |pv hz=>cases hz with
      |int JU=>
       cases hy with
       |oe hg=>refine⟨_,mA hu (by omega) hr.1.1 hr.1.2,?_⟩;have:=aq.oe (P:=E.P) (μ:=μ) (φ:=φ) (id:=id) (i:=i.toNat+j) (off:=off) hg;grind [Addr.add_mid,id,aW,Nat.add_mul]
    ·rename_i hb;refine⟨_,_,fun m2 cQ R' k'=>by have:=cQ (false,id) (by simp);simp_all[du,BY],h,by simp,by simp[V.has],fun G w0 μ φ w y z hM hy hz=>?_⟩;cases hz with
     |pv hz=>cases hz with
      |int JU=>
       cases hy with
       |oe hg=>exact⟨_,mA hu (by omega) hr.1.1 hr.1.2,by rw[Addr.add_mid,aol];exact .oe hg⟩
   ·cases h
  ·cases h
 ·cases h
theorem q8{cs:List V}(h:sT x=some cs):(∀id,cq id cs=true→x.has id=true)∧∀(P:Program)(μ:Ro)(φ:Nat→aK)y,aq P μ φ x y→∃xs:Array Value,y=.agg xs∧cs.length=xs.size∧(∀(i:Nat)p x,cs[i]?=some p→xs[i]?=some x→aq P μ φ p x)∧(∀(i:Nat)(x:Value),xs[i]?=some x→x.oneCell'=true):=by
 unfold sT at h;split at h
 ·simp only[tb]at h;subst h;refine⟨fun id hid=>(by rw[Sy]at hid;cases hid),fun P μ φ y hy=>?_⟩;cases hy with
  |pv hy=>cases hy with
   |agg h1 h2 h3=>refine⟨_,rfl,by simpa using h1,fun i p x hi hx=>?_,h3⟩;simp only[AT,ae0]at hi;obtain⟨q,hq,rfl⟩:=hi;exact .pv (h2 i q x hq hx)
 ·simp only[tb]at h;subst h;refine⟨fun id hid=>by simpa[V.has]using hid,fun P μ φ y hy=>?_⟩;cases hy with
  |agg h1 h2 h3=>grind
 ·cases h
variable{xs:Array Value}{off:Nat}
theorem CH(ha:aJ P t=true):(part t xs off).run P w=.ok (.agg (xs.extract off (off+aW P t))) w:=by obtain⟨d,hu,_⟩:=GM ha;simp_all[part,D6,E1]
theorem CI{d:TypeDesc}{y:Value}(hu:P.underlying t=some d)(ha:aJ P t=false)(hy:xs[off]?=some y):(part t xs off).run P w=.ok y w:=by simp[part,D6 hu,ha,hy]
theorem NJ{cs:List V}(h:Gu E t cs off k=some r):∃v,(∀(R':Type)(k':V→Option R'),Gu E t cs off k'=k' v)∧k v=some r∧(∀id,v.has id=true→cq id cs=true)∧∀(μ:Ro)(φ:Nat→aK)(w:World)(xs:Array Value),cs.length=xs.size→(∀(i:Nat)p x,cs[i]?=some p→xs[i]?=some x→aq E.P μ φ p x)→(∀(i:Nat)(x:Value),xs[i]?=some x→x.oneCell'=true)→∃z,(part t xs off).run E.P w=.ok z w∧aq E.P μ φ v z:=by
 unfold Gu at h;split at h
 ·rename_i ha;split at h
  ·rename_i hn;refine⟨_,fun R' k'=>by simp[Gu,ha,hn],h,fun id hid=>?_,fun μ φ w xs h1 h2 h3=>⟨_,CH ha,?_⟩⟩
   ·simp only[V.has]at hid;obtain⟨v,hv,hh⟩:=cT.1 hid;grind [bO,List.mem_of_mem_drop,List.mem_of_mem_take]
   ·refine .agg (by simp;omega) (fun i p x hi hx=>?_) (fun i x hx=>?_)
    ·grind
    grind [Array.getElem?_extract]
  ·cases h
 ·rename_i ha;have ha:aJ E.P t=false:=by simpa using ha
  split at h
  ·rename_i v hv;obtain⟨u,h1,h2,h3,h4⟩:=NH h;obtain⟨d,hu⟩:=JN h;refine⟨u,fun R' k'=>by simp[Gu,ha,hv,h1],h2,fun id hid=>bO (amq hv) (h4 id hid),fun μ φ w xs g1 g2 g3=>?_⟩;have bK:off<cs.length:=(IN.1 hv).1;have hx:xs[off]?=some xs[off]:=T1 (by omega);grind [CI]
  ·cases h
theorem UA(h:Gv E s x j k=some r):∃v,(∀(R':Type)(k':V→Option R'),Gv E s x j k'=k' v)∧k v=some r∧(∀id,v.has id=true→x.has id=true)∧∀(μ:Ro)(φ:Nat→aK)(w:World)(y:Value),aq E.P μ φ x y→∃z,(Instr.field s y j).run E.P w=.ok z w∧aq E.P μ φ v z:=by
 unfold Gv at h;split at h
 ·rename_i o t cs ho hc;obtain⟨fs,f,hu,hf,rfl,rfl,hz⟩:=E2 ho;obtain⟨v,h1,h2,h3,h4⟩:=NJ h;obtain⟨c1,c2⟩:=q8 hc;refine⟨v,fun R' k'=>by simp[Gv,ho,hc,h1],h2,fun id hid=>c1 id (h3 id hid),fun μ φ w y hy=>?_⟩;obtain⟨xs,rfl,g1,g2,g3⟩:=c2 _ _ _ _ hy;obtain⟨z,hz,hv⟩:=h4 μ φ w xs g1 g2 g3;exact⟨z,by simp[Instr.field,run_underlying hu,hf,Go.asAgg,hz],hv⟩
 ·cases h
theorem wf_u8(b:UInt8):(Lit.int .u8 b.toNat).wf=true:=by rw[xl];have:=b.toNat_lt;simp[IntKind.min,IntKind.max,IntKind.signed,IntKind.bits];omega
theorem UB{ix:V}(h:DW E t x ix k=some r):∃v,(∀(R':Type)(k':V→Option R'),DW E t x ix k'=k' v)∧k v=some r∧(∀id,v.has id=true→x.has id=true)∧∀(μ:Ro)(φ:Nat→aK)(w:World)(y z:Value),aq E.P μ φ x y→aq E.P μ φ ix z→∃u,(Instr.index t y z).run E.P w=.ok u w∧aq E.P μ φ v u:=by
 unfold DW at h;split at h
 ·rename_i q i;split at h
  ·rename_i s hu;obtain⟨b,hb,hk⟩:=AI.1 h;refine⟨_,fun R' k'=>by simp[DW,hu,hb],hk,by simp,fun μ φ w y z hy hz=>?_⟩;cases hz with
   |pv hz=>cases hz with
    |int JU=>
     cases hy with
     |pv hy=>cases hy with
      |str hl=>
       unfold W5 at hb;split at hb
       ·rename_i h0;have bK:=(IN.1 hb).1;have j4:(⟨s.toArray⟩:ByteArray)[i.toNat]?=some b:=by
         rw[getElem?_def];have:i.toNat<(⟨s.toArray⟩:ByteArray).size:=by simpa[ByteArray.size]using bK
         rw[aqY this];have e:=(IN.1 hb).2;simp only[tb];rw[←e];rfl
        refine⟨_,?_,.pv (.int (wf_u8 b))⟩;simp[Instr.index,asIntOf,run_underlying hu,h0,j4]
       ·cases hb
  ·rename_i n et hu;split at h
   ·rename_i cs hc;split at h
    ·rename_i hn;obtain⟨v,h1,h2,h3,h4⟩:=NJ h;obtain⟨c1,c2⟩:=q8 hc;refine⟨v,fun R' k'=>by simp only[DW,hu,hc];rw[BY hn,h1],h2,fun id hid=>c1 id (h3 id hid),fun μ φ w y z hy hz=>?_⟩;obtain⟨xs,rfl,g1,g2,g3⟩:=c2 _ _ _ _ hy;obtain⟨u,hu1,hv⟩:=h4 μ φ w xs g1 g2 g3;cases hz with
     |pv hz=>cases hz with
      |int JU=>refine⟨u,?_,hv⟩;have hr:=hn.1;unfold aC at hr;simp[Instr.index,asIntOf,run_underlying hu,hr.1,hr.2,jZ (show aW E.P et≠0 by omega),hu1]
    ·cases h
   ·cases h
  ·cases h
 ·cases h
end
section
variable {R:Type} {E:Env}
theorem GN(s:Bytes):(⟨s.toArray⟩:ByteArray).size=s.length:=by rfl
theorem GO{n:Nat}(h:n≤maxLen):(Lit.int .i64 (n:Int)).wf=true:=by grind [xl,maxLen,IntKind.min,IntKind.max,IntKind.signed,IntKind.bits]
variable{P:Program}{μ:Ro}{sz:Nat}{es:List PV}
theorem afc{x:Value}(h:au P μ (.rs sz es) x):∃a cap,x=.slice a es.length cap∧es.length≤maxLen:=by
 cases h with
 |lV=>simp
 | @M9 _ cap a h=>simp
 |rs X h1 h2=>grind
variable{φ:Nat→aK}{m:Mem}{w:World}
theorem aG.arr{G:Nat→Option (List PV)}{w0:bl}(hM:aG P G w0 μ φ m w){id s:Nat}{et:TypeId}(hm:m id=some (.arr s et es)∨m id=some (.rE s et es)):aP P μ φ w id s et es:=by
 rcases hm with hm|hm
 ·exact hM.dF id _ hm
 ·exact(hM.dF id _ hm).1
theorem aP.q9{id s:Nat}{et:TypeId}(h:aP P μ φ w id s et es):es.length≤(φ id).cap∧(φ id).cap≤maxLen:=by obtain⟨a1,a2,a3,a4,a5,a6,a7⟩:=h;grind
variable{x:V}{k:Nat→bx→Option R}{r:R}
theorem acH(h:Jc m x k=some r):∃n ft,(∀m2:Mem,(∀x∈ft,m2 x.2=m x.2)→∀(R':Type)(k':Nat→bx→Option R'),Jc m2 x k'=k' n ft)∧k n ft=some r∧(∀x∈ft,x.1=false)∧∀(P:Program)(G:Nat→Option (List PV))(w0:bl)(μ:Ro)(φ:Nat→aK)(w:World)(y:Value),aG P G w0 μ φ m w→aq P μ φ x y→(∀id,x.has id=true→(m id).isSome=true)→n≤maxLen∧∃a cap,y=.slice a n cap:=by
 unfold Jc at h;split at h
 ·refine⟨_,_,fun m2 _ R' k'=>by rfl,h,by simp,fun P G w0 μ φ w y hM hy _=>?_⟩;cases hy with
  |pv hy=>obtain⟨a,cap,rfl,hl⟩:=afc hy;simp_all
 ·refine⟨_,_,fun m2 _ R' k'=>by rfl,h,by simp,fun P G w0 μ φ w y hM hy _=>?_⟩;cases hy;simp
 ·rename_i id lo len;have key:∀(s:Nat)(et:TypeId)(es:List PV),(m id=some (.arr s et es)∨m id=some (.rE s et es))→∀(P:Program)(G:Nat→Option (List PV))(w0:bl)(μ:Ro)(φ:Nat→aK)(w:World)(y:Value),aG P G w0 μ φ m w→aq P μ φ (.fX id lo len) y→len≤maxLen∧∃a cap,y=.slice a len cap:=by
   intro s et es hm P G w0 μ φ w y hM hy;have hA:=hM.arr hm;have hl:=hA.q9;cases hy with
   |sX=>simp
   |fX hg Xp ha=>grind
  split at h
  ·rename_i s et es hm;exact⟨_,_,fun m2 cQ R' k'=>by have:=cQ (false,id) (by simp);simp_all[Jc],h,by simp,fun P G w0 μ φ w y hM hy _=>key s et es (.inl hm) P G w0 μ φ w y hM hy⟩
  ·rename_i s et es hm;exact⟨_,_,fun m2 cQ R' k'=>by have:=cQ (false,id) (by simp);simp_all[Jc],h,by simp,fun P G w0 μ φ w y hM hy _=>key s et es (.inr hm) P G w0 μ φ w y hM hy⟩
  ·cases h
 ·rename_i id;split at h
  ·rename_i s et es hm;refine⟨_,_,fun m2 cQ R' k'=>by have:=cQ (false,id) (by simp);simp_all[Jc],h,by simp,fun P G w0 μ φ w y hM hy _=>?_⟩;have hA:=hM.arr (.inl hm);have hl:=hA.q9;obtain⟨a1,a2,a3,a4,a5,a6,a7⟩:=hA;refine⟨by omega,?_⟩;cases hy with
   |ux hg=>simp_all
   |os hg=>simp_all
  ·rename_i s et es hm;refine⟨_,_,fun m2 cQ R' k'=>by have:=cQ (false,id) (by simp);simp_all[Jc],h,by simp,fun P G w0 μ φ w y hM hy _=>?_⟩;have hA:=hM.arr (.inr hm);have hl:=hA.q9;obtain⟨a1,a2,a3,a4,a5,a6,a7⟩:=hA;refine⟨by omega,?_⟩;cases hy with
   |ux hg=>simp_all
   |os hg=>simp_all
  ·rename_i s et es hm;refine⟨_,_,fun m2 cQ R' k'=>by have:=cQ (false,id) (by simp);simp_all[Jc],h,by simp,fun P G w0 μ φ w y hM hy _=>?_⟩;have hA:bg P μ φ w id s et es:=hM.dF id _ hm;obtain⟨a1,a2,a3,a4,a5,a6,a7⟩:=hA;have hl:es.length≤(φ id).cap:=by grind
   refine⟨by omega,?_⟩;cases hy with
   |ux hg=>simp_all
   |os hg=>simp_all
  ·rename_i cs hm;split at h
   ·rename_i hlen;refine⟨_,_,fun m2 cQ R' k'=>by have:=cQ (false,id) (by simp);simp_all[Jc],h,by simp,fun P G w0 μ φ w y hM hy _=>?_⟩;obtain⟨g,c,T,hg,hh,hs,hv,wq,Jf⟩:=hM.dF id _ hm;refine⟨hlen,?_⟩;cases hy with
    |ux cV=>simp_all
    |os cV=>simp_all
   ·cases h
  ·cases h
 ·cases h
theorem acI(h:Uv sz m x k=some r):∃n ft,(∀m2:Mem,(∀x∈ft,m2 x.2=m x.2)→∀(R':Type)(k':Nat→bx→Option R'),Uv sz m2 x k'=k' n ft)∧k n ft=some r∧(∀x∈ft,x.1=false)∧∀(P:Program)(G:Nat→Option (List PV))(w0:bl)(μ:Ro)(φ:Nat→aK)(w:World)(y:Value),aG P G w0 μ φ m w→aq P μ φ x y→(∀id,x.has id=true→(m id).isSome=true)→n≤maxLen∧∃a cap,y=.slice a n cap:=by
 unfold Uv at h;split at h
 ·rename_i id i off;split at h
  ·rename_i s et es hm;obtain⟨e,he,h⟩:=AI.1 h;obtain⟨rs,hr,h⟩:=AI.1 h;refine⟨_,_,fun m2 cQ R' k'=>by have:=cQ (false,id) (by simp);simp_all[Uv],h,by simp,fun P G w0 μ φ w y hM hy _=>?_⟩;have hN:bg P μ φ w id s et es:=hM.dF id _ hm;obtain⟨_,_,_,_,⟨⟨I4,hA⟩,_⟩,_⟩:=hN.row he hr;have hl:=hA.q9;have a1:=hA.1;refine⟨by omega,?_⟩;have hy:=hy.Qx (ν:=μ);cases hy with
   |ux hg=>have a7:=hA.2.2.2.2.2.2;simp_all
   |os hg=>simp_all
  ·cases h
 ·rename_i cy;obtain⟨n,ft,h1,h2,h3,h4⟩:=acH h;refine⟨n,ft,fun m2 cQ R' k'=>?_,h2,h3,h4⟩;unfold Uv;simp_all
theorem acJ(h:W8 m x k=some r):∃n ft,(∀m2:Mem,(∀x∈ft,m2 x.2=m x.2)→∀(R':Type)(k':Nat→bx→Option R'),W8 m2 x k'=k' n ft)∧k n ft=some r∧(∀x∈ft,x.1=false)∧n≤maxLen∧∀(P:Program)(G:Nat→Option (List PV))(w0:bl)(μ:Ro)(φ:Nat→aK)(w:World)(y:Value)(t kt et ty:TypeId),P.underlying t=some (.map kt et)→aG P G w0 μ φ m w→aq P μ φ x y→(Builtin.len_ #[t] ty #[y]).run P w=.ok (.int .i64 n) w:=by
 unfold W8 at h;split at h
 ·rename_i id;split at h
  ·rename_i kt es hm;split at h
   ·rename_i hl;refine⟨_,_,fun m2 cQ R' k'=>by have:=cQ (false,id) (by simp);simp_all[W8],h,by simp,hl,fun P G w0 μ φ w y t kt et ty hu hM hy=>?_⟩;cases hy with
    | @om _ g hg=>obtain⟨g',en,clock,kk,cV,hh,hs,_⟩:=hM.dF id _ hm;simp_all[tb,Builtin.len_,run_underlying,getObj,Sem.run,goInt]
   ·cases h
  ·cases h
 ·refine⟨_,_,fun m2 _ R' k'=>by rfl,h,by simp,by simp,fun P G w0 μ φ w y t kt et ty hu hM hy=>?_⟩;cases hy with
  |pv hy=>cases hy;simp[Builtin.len_,run_underlying hu,goInt]
 ·cases h
variable{t:TypeId}
theorem acK{k:V→bx→Option R}(h:Nr E t x m k=some r):∃v ft,(∀m2:Mem,(∀x∈ft,m2 x.2=m x.2)→∀(R':Type)(k':V→bx→Option R'),Nr E t x m2 k'=k' v ft)∧k v ft=some r∧(∀x∈ft,x.1=false)∧(∀id,v.has id=false)∧∀(G:Nat→Option (List PV))(w0:bl)(μ:Ro)(φ:Nat→aK)(w:World)(y:Value)(ty:TypeId),aG E.P G w0 μ φ m w→aq E.P μ φ x y→(∀id,x.has id=true→(m id).isSome=true)→∃z,(Builtin.len_ #[t] ty #[y]).run E.P w=.ok z w∧aq E.P μ φ v z:=by
 unfold Nr at h;split at h
 ·rename_i n e hu;split at h
  ·rename_i hn;exact⟨_,_,fun m2 _ R' k'=>by simp[Nr,hu,hn],h,by simp,by simp,fun G w0 μ φ w y ty hM hy _=>⟨_,by simp[Builtin.len_,run_underlying hu,goInt],.pv (.int (GO hn))⟩⟩
  ·cases h
 ·rename_i hu;split at h
  ·refine⟨_,_,fun m2 _ R' k'=>by simp[Nr,hu],h,by simp,by simp,fun G w0 μ φ w y ty hM hy _=>?_⟩;cases hy with
   |pv hy=>cases hy with
    | @str s hl=>exact⟨_,by simp[Builtin.len_,run_underlying hu,goInt,GN],.pv (.int (GO hl))⟩
  ·cases h
 ·rename_i e hu;obtain⟨n,ft,h1,h2,h3,h4⟩:=acI h;refine⟨_,ft,fun m2 cQ R' k'=>by simp only[Nr,hu];rw[h1 m2 cQ],h2,h3,by simp,fun G w0 μ φ w y ty hM hy hq=>?_⟩;obtain⟨hl,a,cap,rfl⟩:=h4 _ _ _ _ _ _ _ hM hy hq;exact⟨_,by simp[Builtin.len_,run_underlying hu,goInt],.pv (.int (GO hl))⟩
 ·rename_i kt et hu;obtain⟨n,ft,h1,h2,h3,hl,h4⟩:=acJ h;refine⟨_,ft,fun m2 cQ R' k'=>by simp only[Nr,hu];rw[h1 m2 cQ],h2,h3,by simp,fun G w0 μ φ w y ty hM hy hq=>?_⟩;exact⟨_,h4 _ _ _ _ _ _ _ _ _ _ _ hu hM hy,.pv (.int (GO hl))⟩
 ·cases h
theorem GP{d i:Int}{v:Option V}(h:kc d v=some i):(v=none∧i=d)∨∃q,v=some (.pv (.int q i)):=by unfold kc at h;grind
theorem run_sliceBound{P:Program}{w:World}{q:IntKind}{i:Int}{y:Nat}{code:BoundsCode}(h0:0≤i)(h1:i≤(y:Int)):(Instr.sliceBound (.int q i) y code).run P w=.ok i.toNat w:=by simp[Instr.sliceBound,asIntOf,h0,h1]
variable{GQ oa:Option Value}
theorem mB{isS:Bool}{len cap:Nat}{l h:Int}{lo hi:Option V}(hl:kc 0 lo=some l)(hh:kc len hi=some h)(rl:∀v,lo=some v→∃y,GQ=some y∧aq P μ φ v y)(rl0:lo=none→GQ=none)(rh:∀v,hi=some v→∃y,oa=some y∧aq P μ φ v y)(rh0:hi=none→oa=none)(b0:0≤l)(b1:l≤h)(b2:h≤(len:Int))(b3:len≤cap):(Instr.sliceBounds isS len cap GQ oa none).run P w=.ok (l.toNat,h.toNat,cap) w:=by
 have e1:∃y,(oa=none∧h=len)∨(oa=some y∧∃q,y=.int q h):=by
  rcases GP hh with⟨rfl,rfl⟩|⟨q,rfl⟩
  ·simp_all
  ·obtain⟨y,rfl,hy⟩:=rh _ rfl;cases hy with
   |pv hy=>cases hy with
    |int hw=>simp
 have e2:∃y,(GQ=none∧l=0)∨(GQ=some y∧∃q,y=.int q l):=by
  rcases GP hl with⟨rfl,rfl⟩|⟨q,rfl⟩
  ·simp_all
  ·obtain⟨y,rfl,hy⟩:=rl _ rfl;cases hy with
   |pv hy=>cases hy with
    |int hw=>simp
 clear rl rl0 rh rh0 hl hh;obtain⟨y,⟨rfl,rfl⟩|⟨rfl,q,rfl⟩⟩:=e1<;>obtain⟨z,⟨rfl,rfl⟩|⟨rfl,q',rfl⟩⟩:=e2
 ·rfl
 ·simp_all[run_sliceBound,Instr.sliceBounds]
 ·have:= @run_sliceBound P w q h cap (if isS then BoundsCode.sliceAcap else .sliceAlen) (by omega) (by omega);simp[Instr.sliceBounds,this]
 ·have h1:= @run_sliceBound P w q h cap (if isS then BoundsCode.sliceAcap else .sliceAlen) (by omega) (by omega);have h2:= @run_sliceBound P w q' l h.toNat BoundsCode.sliceB b0 (by omega);simp[Instr.sliceBounds,h1,h2]
theorem str_slice{s:Bytes}{l h:Nat}(hl:l≤h)(hh:h≤s.length):(⟨s.toArray⟩:ByteArray).extract l h=⟨((s.take h).drop l).toArray⟩:=by apply ByteArray.ext;simp[ByteArray.data_extract,ao7,List.extract_eq_take_drop,List.drop_take]
theorem Xq{x:Value}{l h:Nat}(hx:au P μ (.rs sz es) x)(hl:l≤h)(hh:h≤es.length):∃a cap,x=.slice a es.length cap∧es.length≤cap∧au P μ (.rs sz ((es.take h).drop l)) (.slice (if cap=l then a else a.map (·.add (l*sz))) (h-l) (cap-l)):=by
 have hlen:((es.take h).drop l).length=h-l:=by simp;omega
 cases hx with
 |lV=>
  simp at hh;subst hh;have:l=0:=by omega
  subst this;exact⟨none,0,rfl,by simp,by simpa using au.lV⟩
 | @M9 _ cap a hc=>
  simp at hh;subst hh;have:l=0:=by omega
  subst this;refine⟨some a,cap,rfl,by simp,?_⟩;have:(if cap=0 then some a else(some a).map (·.add (0*sz)))=some a:=by split<;>simp[Addr.add]
  rw[this];exact .M9 hc
 | @rs _ _ b o cap X h1 h2 h3 h4 h5 h6=>
  refine⟨_,cap,rfl,h1,?_⟩;have eE:∀(i:Nat)e,((es.take h).drop l)[i]?=some e→es[l+i]?=some e:=fun i e hi=>(iQ (wo hi)).2;by_cases hz:h=l
  ·have:(es.take h).drop l=[]:=anF (by omega);rw[this];have hz':h-l=0:=by omega
   rw[hz'];split
   ·exact .M9 (by omega)
   ·simp only[No];exact .M9 (by omega)
  ·have hc:cap≠l:=by omega
   rw[IT hc];simp only[No,Addr.add_mid];have:=au.rs (P:=P) (μ:=μ) (sz:=sz) (es:=(es.take h).drop l) (b:=b) (o:=o+l*sz) (cap:=cap-l) (fun i j=>X (l+i) j) (by omega) (by omega) (fun i e hi=>h3 _ e (eE i e hi)) (fun i e j p hi hj=>by grind) (fun i e j p hi hj=>h5 _ e j p (eE i e hi) hj) (fun i e j p hi hj=>h6 _ e j p (eE i e hi) hj);simp_all
theorem xm{e:TypeId}{a:Option Addr}{len cap l h:Nat}(hu:P.underlying t=some (.slice e))(hz:aW P e≠0)(hb:(Instr.sliceBounds true len cap GQ oa none).run P w=.ok (l,h,cap) w):(Instr.sliceAt t (.slice a len cap) GQ oa none).run P w=.ok (.slice (if cap=l then a else a.map (·.add (l*aW P e))) (h-l) (cap-l)) w:=by simp_all[Instr.sliceAt,Instr.slice,run_underlying,jZ]
theorem UC{lo hi mx:Option V}{k:V→bx→Option R}(h:xc E t x lo hi mx m k=some r):∃v ft,(∀m2:Mem,(∀x∈ft,m2 x.2=m x.2)→∀(R':Type)(k':V→bx→Option R'),xc E t x lo hi mx m2 k'=k' v ft)∧k v ft=some r∧(∀x∈ft,x.1=false)∧(∀id,v.has id=true→x.has id=true)∧∀(G:Nat→Option (List PV))(w0:bl)(μ:Ro)(φ:Nat→aK)(w:World)(y:Value)(GQ oa mx':Option Value),aG E.P G w0 μ φ m w→aq E.P μ φ x y→(∀v,lo=some v→∃y,GQ=some y∧aq E.P μ φ v y)→(lo=none→GQ=none)→(∀v,hi=some v→∃y,oa=some y∧aq E.P μ φ v y)→(hi=none→oa=none)→(∀v,mx=some v→∃y,mx'=some y∧aq E.P μ φ v y)→(mx=none→mx'=none)→∃z,(Instr.sliceAt t y GQ oa mx').run E.P w=.ok z w∧aq E.P μ φ v z:=by
 unfold xc at h;split at h
 ·rename_i mv;split at h
  ·rename_i e id hu;split at h
   ·rename_i s et es hm;split at h
    ·rename_i qh hh qc c;split at h
     ·rename_i hb;refine⟨_,_,fun m2 cQ R' k'=>by have:=cQ (false,id) (by simp);simp_all[xc,BY],h,by simp,by simp[V.has],fun G w0 μ φ w y GQ oa mx' hM hy r1 r2 r3 r4 r5 r6=>?_⟩;have hA:=hM.arr (.inl hm);have hle:=hA.q9;obtain⟨a1,a2,a3,a4,a5,a6,a7⟩:=hA;obtain⟨ym,rfl,hym⟩:=r5 _ rfl;have hlo:=r2 rfl;subst hlo;cases hym with
      |pv hym=>cases hym with
       |int hwc=>
        have hB:∀len cap:Nat,len=es.length→c≤(cap:Int)→(Instr.sliceBounds true len cap none oa (some (.int qc c))).run E.P w=.ok (0,hh.toNat,c.toNat) w:=by
         intro len cap hlen su;have h1:= @run_sliceBound E.P w qc c cap BoundsCode.slice3Acap (by omega) su;obtain⟨yh,rfl,hyh⟩:=r3 _ rfl;cases hyh with
         |pv hyh=>cases hyh with
          |int hwh=>have h2:= @run_sliceBound E.P w qh hh c.toNat BoundsCode.slice3B (by omega) (by omega);simp[Instr.sliceBounds,h1,h2]
        have hS:∀(a:Option Addr)(len cap:Nat),len=es.length→c≤(cap:Int)→(Instr.sliceAt t (.slice a len cap) none oa (some (.int qc c))).run E.P w=.ok (.slice (if c.toNat=0 then a else a.map (·.add (0*aW E.P e))) hh.toNat c.toNat) w:=by intro a len cap hlen su;simp[Instr.sliceAt,Instr.slice,run_underlying hu,hB len cap hlen su,jZ (show aW E.P e≠0 by omega)]
        cases hy with
        |ux hg=>
         rw[hg]at a7;have h0:es.length=0:=by omega
         refine⟨_,hS none 0 0 h0.symm (by omega),?_⟩;have e1:hh.toNat=0:=by omega
         have e2:c.toNat=0:=by omega
         rw[e1,e2];exact .sX hg
        | @os _ g hg=>
         refine⟨_,hS _ _ _ a1 (by omega),?_⟩;have:(if c.toNat=0 then some (⟨g,0,none⟩:Addr)else(some ⟨g,0,none⟩:Option Addr).map (·.add (0*aW E.P e)))=some ⟨g,0*(φ id).sz,none⟩:=by split<;>simp[Addr.add]
         rw[this];exact .fX hg (by omega) (.inl rfl) (by omega) (by omega)
     ·cases h
    ·cases h
   ·cases h
  ·cases h
 ·split at h
  ·rename_i s hu;split at h
   ·rename_i l hh hl hhh;split at h
    ·rename_i hb;refine⟨_,_,fun m2 _ R' k'=>by simp_all[xc,BY],h,by simp,by simp,fun G w0 μ φ w y GQ oa mx' hM hy r1 r2 r3 r4 _ r6=>?_⟩;have hmx:=r6 rfl;subst hmx;cases hy with
     |pv hy=>cases hy with
      |str hlen=>have hB:=mB (P:=E.P) (w:=w) (isS:=false) (cap:=s.length) hl hhh r1 r2 r3 r4 hb.1 hb.2.1 hb.2.2 (anz _);refine⟨_,?_,.pv (.str (s:=(s.take hh.toNat).drop l.toNat) (by simp;omega))⟩;simp only[Instr.sliceAt,Instr.slice,Sem.run_bind,run_underlying hu,Result.andThen_ok,GN,hB];simp only[aoY,tc,PS,Sem.run_bind,Sem.run_pure,Result.andThen_ok,hB];rw[str_slice (by omega) (by omega)]
    ·cases h
   ·cases h
  ·rename_i e sz es hu;split at h
   ·rename_i l hh hl hhh;split at h
    ·rename_i hb;refine⟨_,_,fun m2 _ R' k'=>by simp_all[xc,BY],h,by simp,by simp,fun G w0 μ φ w y GQ oa mx' hM hy r1 r2 r3 r4 _ r6=>?_⟩;have hmx:=r6 rfl;subst hmx;cases hy with
     |pv hy=>obtain⟨a,cap,rfl,hc,hr⟩:=Xq (l:=l.toNat) (h:=hh.toNat) hy (by omega) (by omega);have hB:=mB (P:=E.P) (w:=w) (isS:=true) (cap:=cap) hl hhh r1 r2 r3 r4 hb.1 hb.2.1 hb.2.2.1 hc;exact⟨_,xm hu hb.2.2.2.2 hB,by rw[←hb.2.2.2.1];exact .pv hr⟩
    ·cases h
   ·cases h
  ·rename_i e id hu;have key:∀(s:Nat)(et:TypeId)(es:List PV)(l hh:Int),(m id=some (.arr s et es)∨m id=some (.rE s et es))→kc 0 lo=some l→kc es.length hi=some hh→(0≤l∧l≤hh∧hh≤(es.length:Int)∧s=aW E.P e)→∀(G:Nat→Option (List PV))(w0:bl)(μ:Ro)(φ:Nat→aK)(w:World)(y:Value)(GQ oa:Option Value),aG E.P G w0 μ φ m w→aq E.P μ φ (.os id) y→(∀v,lo=some v→∃y,GQ=some y∧aq E.P μ φ v y)→(lo=none→GQ=none)→(∀v,hi=some v→∃y,oa=some y∧aq E.P μ φ v y)→(hi=none→oa=none)→∃z,(Instr.sliceAt t y GQ oa none).run E.P w=.ok z w∧aq E.P μ φ (.fX id l.toNat (hh.toNat-l.toNat)) z:=by
    intro s et es l hh hm hl hhh hb G w0 μ φ w y GQ oa hM hy r1 r2 r3 r4;have hA:=hM.arr hm;have hle:=hA.q9;obtain⟨a1,a2,a3,a4,a5,a6,a7⟩:=hA;cases hy with
    |ux hg=>
     rw[hg]at a7;have h0:es.length=0:=by omega
     have hB:=mB (P:=E.P) (w:=w) (isS:=true) (cap:=0) hl hhh r1 r2 r3 r4 hb.1 hb.2.1 hb.2.2.1 (by omega);rw[h0]at hB;refine⟨_,xm hu (by omega) hB,?_⟩;have e1:l.toNat=0:=by omega
     have e2:hh.toNat=0:=by omega
     rw[e1,e2];exact .sX hg
    | @os _ g hg=>
     have hB:=mB (P:=E.P) (w:=w) (isS:=true) (cap:=(φ id).cap) hl hhh r1 r2 r3 r4 hb.1 hb.2.1 hb.2.2.1 (by omega);rw[←a1]at hB;refine⟨_,xm hu (by omega) hB,?_⟩;by_cases hc:(φ id).cap=l.toNat
     ·rw[BY hc];by_cases h0:l.toNat=0
      ·rw[h0];exact .fX hg (by omega) (.inl (by simp)) (by omega) (by omega)
      ·exact .fX hg (by omega) (.inr ⟨hc,by omega⟩) (by omega) (by omega)
     ·rw[IT hc];simp only[No,Addr.add_mid,aoy];refine .fX hg (by omega) (.inl ?_) (by omega) (by omega);rw[a2,hb.2.2.2]
   split at h
   ·rename_i s et es hm;split at h
    ·rename_i l hh hl hhh;split at h
     ·rename_i hb;exact⟨_,_,fun m2 cQ R' k'=>by have:=cQ (false,id) (by simp);simp_all[xc,BY],h,by simp,by simp[V.has],fun G w0 μ φ w y GQ oa mx' hM hy r1 r2 r3 r4 _ r6=>by rw[r6 rfl];exact key s et es l hh (.inl hm) hl hhh hb G w0 μ φ w y GQ oa hM hy r1 r2 r3 r4⟩
     ·cases h
    ·cases h
   ·rename_i s et es hm;split at h
    ·rename_i l hh hl hhh;split at h
     ·rename_i hb;exact⟨_,_,fun m2 cQ R' k'=>by have:=cQ (false,id) (by simp);simp_all[xc,BY],h,by simp,by simp[V.has],fun G w0 μ φ w y GQ oa mx' hM hy r1 r2 r3 r4 _ r6=>by rw[r6 rfl];exact key s et es l hh (.inr hm) hl hhh hb G w0 μ φ w y GQ oa hM hy r1 r2 r3 r4⟩
     ·cases h
    ·cases h
   ·cases h
  ·cases h
end
end Go.Ab
