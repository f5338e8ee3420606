import Derived.Test.YteddgaennnfacaaGreatAbEval
import Derived.Below
import Derived.Laws.CopyRow
import Derived.Deep.MidRow
set_option linter.all false
namespace Go.Ab
open Go.RowKit (Below)
abbrev Ro:=Nat→Option Obj
def abk:Bool:=true
structure lL(B:Nat)(w w':World):Prop extends Below B w w' where
 drawn:abk=true→w.drawn≤w'.drawn
namespace lL
theorem refl(B:Nat)(w:World):lL B w w:=⟨Below.refl B w,fun _=>alz _⟩
theorem trans{B:Nat}{a b c:World}(h:lL B a b)(k:lL B b c):lL B a c:=⟨h.toBelow.trans k.toBelow,fun u=>alH (h.drawn u) (k.drawn u)⟩
theorem mono{B B':Nat}{w w':World}(h:lL B w w')(hB:B'≤B):lL B' w w':=⟨h.toBelow.mono hB,h.drawn⟩
theorem drew{B:Nat}{a w:World}(h:lL B a w):lL B a w.drew:=⟨h.toBelow.drew,fun u=>Nat.le_succ_of_le (h.drawn u)⟩
theorem heap_alloc(w:World)(o:Obj)(k:Nat)(h:k<w.heap.size):(w.alloc o).heap[k]?=w.heap[k]?:=Below.heap_alloc w o k h
theorem alloc{B:Nat}{a w:World}(h:lL B a w)(hB:B≤w.heap.size)(o:Obj):lL B a (w.alloc o):=⟨h.toBelow.alloc hB o,h.drawn⟩
end lL
def Jmp.code:Jmp→Code
 |.ret=>.ret
 |.exit id=>.exit id
def PJ.obj(rc:Loop):PJ→Loop
 |.ready=>{rc with state:=.ready,pending:=none}
 |.busy=>{rc with state:=.busy,pending:=none}
 |.done j=>{rc with state:=.done,pending:=some j.code}
def cellAt(μ:Ro)(b o:Nat):Option Value:=match μ b with|some (.cells c _ _)=>c[o]?|_=>none
def DU(f:FuncId)(xs:Array Value):Value:=if f<Hr then .func (.func f) #[] xs else .func (.func (f-Hr)) xs #[]
variable{xs:Array Value}
theorem tR{f:FuncId}(h:Nat.blt f Hr=true):DU f xs=.func (.func f) #[] xs:=T0 (by rwa[amt]at h)
theorem Nz{f:FuncId}(h:Nat.blt f Hr=false):DU f xs=.func (.func (f-Hr)) xs #[]:=acB (by rw[←amf,amt]at h;omega)
theorem tS(f:FuncId)(xs:Array Value):∃g a b,DU f xs=.func (.func g) a b:=by
 unfold DU;split
 ·simp
 simp
theorem Ks(f:FuncId)(xs:Array Value):(DU f xs).oneCell'=true:=by obtain⟨g,a,b,h⟩:=tS f xs;rw[h];rfl
inductive ao(P:Program)(μ:Ro):PV→Value→Prop
 |int {k:IntKind} {n:Int}:(Lit.int k n).wf=true→ao P μ (.int k n) (.int k n)
 |bool {b:Bool}:ao P μ (.bool b) (.bool b)
 |str {s:Bytes}:s.length≤maxLen→ao P μ (.str s) (.string ⟨s.toArray⟩)
 |agg {cs:List PV} {xs:Array Value}:cs.length=xs.size→(∀(i:Nat)p x,cs[i]?=some p→xs[i]?=some x→ao P μ p x)→(∀(i:Nat)(x:Value),xs[i]?=some x→x.oneCell'=true)→ao P μ (.agg cs) (.agg xs)
 |aG {cs:List PV} {xs:Array Value}:cs.length=xs.size→(∀(i:Nat)p x,cs[i]?=some p→xs[i]?=some x→ao P μ p x)→ao P μ (.aG cs) (.tuple xs)
 |tJ:ao P μ .tJ (.pointer none)
 |rp {cs:List PV} {b o:Nat} (X:Nat→Value):(∀(i:Nat)p,cs[i]?=some p→cellAt μ b (o+i)=some (X i))→(∀(i:Nat)p,cs[i]?=some p→ao P μ p (X i))→(∀i:Nat,i<cs.length→(X i).oneCell'=true)→ao P μ (.rp cs) (.pointer (some ⟨b,o,none⟩))
 |lA {sz:Nat}:ao P μ (.rs sz []) (.slice none 0 0)
 |M9 {sz cap:Nat} {a:Addr}:cap≤maxLen→ao P μ (.rs sz []) (.slice (some a) 0 cap)
 |rs {sz:Nat} {es:List PV} {b o cap:Nat} (X:Nat→Nat→Value):es.length≤cap→cap≤maxLen→(∀(i:Nat)e,es[i]?=some e→e.cells.length=sz)→(∀(i:Nat)e(j:Nat)p,es[i]?=some e→e.cells[j]?=some p→cellAt μ b (o+i*sz+j)=some (X i j))→(∀(i:Nat)e(j:Nat)p,es[i]?=some e→e.cells[j]?=some p→ao P μ p (X i j))→(∀(i:Nat)e(j:Nat)p,es[i]?=some e→e.cells[j]?=some p→(X i j).oneCell'=true)→ao P μ (.rs sz es) (.slice (some ⟨b,o,none⟩) es.length cap)
 |rr:ao P μ .rr (.map none)
 |rm {kt:TypeId} {ks vs:List PV} {b clock:Nat} {en:Array MapEntry} {kk:List Kd}:μ b=some (.map en clock)→en.size=ks.length→vs.length=ks.length→vz P kt=some kk→(∀(i:Nat)k,ks[i]?=some k→zr P kt kk k=true)→(∀(i:Nat)k e,ks[i]?=some k→en[i]?=some e→ao P μ k e.key)→(∀(i:Nat)v e,vs[i]?=some v→en[i]?=some e→ao P μ v e.val)→ao P μ (.rm kt ks vs) (.map (some b))
 |GY:ao P μ .GY .nilFunc
 |fn {f:FuncId} {cs:List PV} {xs:Array Value}:cs.length=xs.size→(∀(i:Nat)p x,cs[i]?=some p→xs[i]?=some x→ao P μ p x)→ao P μ (.fn f cs) (DU f xs)
 |Xa:ao P μ (.ifc false) .nilIface
 |abl {t:TypeId} {x:Value}:ao P μ (.ifc true) (.iface t x)
 |bad {x:Value}:ao P μ .bad x
structure Cj(P:Program)(μ:Ro)(g:Nat)(cs:List PV):Prop where
 rep:ao P μ (.rp cs) (.pointer (some ⟨g,0,none⟩))
 size:∃c T z,μ g=some (.cells c T z)∧c.size=cs.length
structure Ge where
 g:Option Nat
 cap:Nat
 len:Nat
 sz:Nat
 deriving Inhabited
structure aI extends Ge where
 row:Nat→Nat→Ge:=fun _ _=>default
 deriving Inhabited
abbrev G0(g:Option Nat)(cap len sz:Nat):aI:={g,cap,len,sz}
def Ge.up(p:Ge):aI:={toGe:=p}
inductive an(P:Program)(μ:Ro)(φ:Nat→aI):V→Value→Prop
 |pv {p:PV} {x:Value}:ao P μ p x→an P μ φ (.pv p) x
 |fO:an P μ φ .fO (.slice none 0 0)
 |op {id off g:Nat}:(φ id).g=some g→an P μ φ (.op id off) (.pointer (some ⟨g,off,none⟩))
 |oe {id i off g:Nat}:(φ id).g=some g→an P μ φ (.oe id i off) (.pointer (some ⟨g,i*(φ id).sz+off,none⟩))
 |vt {id:Nat}:(φ id).g=none→an P μ φ (.os id) (.slice none 0 0)
 |os {id g:Nat}:(φ id).g=some g→an P μ φ (.os id) (.slice (some ⟨g,0,none⟩) (φ id).len (φ id).cap)
 |tQ {id:Nat}:(φ id).g=none→an P μ φ (.fS id 0 0) (.slice none 0 0)
 |fS {id lo len cap g:Nat} {a:Addr}:(φ id).g=some g→lo+len≤(φ id).len→(a=⟨g,lo*(φ id).sz,none⟩∨((φ id).cap=lo∧0<lo))→len≤cap→lo+cap≤(φ id).cap→an P μ φ (.fS id lo len) (.slice (some a) len cap)
 |LR {id i off:Nat}:((φ id).row i off).g=none→an P μ φ (.zU id i off) (.slice none 0 0)
 |zU {id i off g:Nat}:((φ id).row i off).g=some g→an P μ φ (.zU id i off) (.slice (some ⟨g,0,none⟩) ((φ id).row i off).len ((φ id).row i off).cap)
 |DJ {id i off s j off2 g:Nat}:((φ id).row i off).g=some g→((φ id).row i off).sz=s→an P μ φ (.DJ id i off s j off2) (.pointer (some ⟨g,j*s+off2,none⟩))
 |om {id g:Nat}:(φ id).g=some g→an P μ φ (.om id) (.map (some g))
 |yl {id g:Nat}:(φ id).g=some g→an P μ φ (.yl id) (.func (.yield g) #[] #[])
 |it {id g:Nat}:(φ id).g=some g→an P μ φ (.it id) (.pointer (some ⟨g,0,none⟩))
 |fn {f:FuncId} {cs:List V} {xs:Array Value}:cs.length=xs.size→(∀(i:Nat)p x,cs[i]?=some p→xs[i]?=some x→an P μ φ p x)→an P μ φ (.fn f cs) (DU f xs)
 |agg {cs:List V} {xs:Array Value}:cs.length=xs.size→(∀(i:Nat)p x,cs[i]?=some p→xs[i]?=some x→an P μ φ p x)→(∀(i:Nat)(x:Value),xs[i]?=some x→x.oneCell'=true)→an P μ φ (.agg cs) (.agg xs)
 |aG {cs:List V} {xs:Array Value}:cs.length=xs.size→(∀(i:Nat)p x,cs[i]?=some p→xs[i]?=some x→an P μ φ p x)→an P μ φ (.aG cs) (.tuple xs)
 |top {x:Value}:an P μ φ .top x
def aN(P:Program)(μ:Ro)(φ:Nat→aI)(w:World)(id sz:Nat)(et:TypeId)(es:List PV):Prop:=
 (φ id).len=es.length∧(φ id).sz=sz∧sz=aV P et∧0<sz∧(∀(i:Nat)e,es[i]?=some e→e.cells.length=sz)∧(φ id).cap≤maxLen∧
 match(φ id).g with
 |none=>es=[]∧(φ id).cap=0
 |some g=>∃(c:Array Value)(T:TypeId),w.heap[g]?=some (.cells c T (0,0))∧(φ id).cap*sz≤c.size∧es.length≤(φ id).cap∧(∀(i:Nat)e(j:Nat)p x,es[i]?=some e→e.cells[j]?=some p→c[i*sz+j]?=some x→ao P μ p x)∧(∀(i:Nat)(x:Value),i<es.length*sz→c[i]?=some x→x.oneCell'=true)
def bK.rowAt:bK→Nat→Nat→Bool
 |.nest _ _ es,i,off=>match es[i]? with
  |some e=>match e.cells[off]? with
   |some p=>p.isRow
   |none=>false
  |none=>false
 |.fu _ _ es,i,0=>match es[i]? with
  |some x=>x.2.isRow
  |none=>false
 |_,_,_=>false
def eQ(P:Program)(μ:Ro)(R:Ge)(w:World)(s:Nat)(rs:List PV)(x:Value):Prop:=(∃et,aN P μ (fun _=>R.up) w 0 s et rs)∧an P μ (fun _=>R.up) (.os 0) x
def ep(P:Program)(μ:Ro)(R:Ge)(w:World)(p:PV)(x:Value):Prop:=match p with
 |.mE s rs=>eQ P μ R w s rs x
 |p=>ao P μ p x
def bd(P:Program)(μ:Ro)(φ:Nat→aI)(w:World)(id sz:Nat)(et:TypeId)(es:List PV):Prop:=
 (φ id).len=es.length∧(φ id).sz=sz∧sz=aV P et∧0<sz∧(∀(i:Nat)e,es[i]?=some e→e.cells.length=sz)∧(φ id).cap≤maxLen∧
 match(φ id).g with
 |none=>es=[]∧(φ id).cap=0
 |some g=>∃(c:Array Value)(T:TypeId),w.heap[g]?=some (.cells c T (0,0))∧(φ id).cap*sz≤c.size∧es.length≤(φ id).cap∧(∀(i:Nat)e(j:Nat)p x,es[i]?=some e→e.cells[j]?=some p→c[i*sz+j]?=some x→ep P μ ((φ id).row i j) w p x)∧(∀(i:Nat)(x:Value),i<es.length*sz→c[i]?=some x→x.oneCell'=true)
def mF(en:Array MapEntry)(clock:Nat):Prop:=∀(i:Nat)e,en[i]?=some e→e.born<clock∧∀(j:Nat)e',en[j]?=some e'→e'.born=e.born→j=i
def lO(en:Array MapEntry)(seen:Array Nat):List MapEntry:=en.toList.filter fun e=> !seen.contains e.born
def gM(P:Program)(μ:Ro)(φ:Nat→aI)(w:World)(id:Nat):bK→Prop
 |.box cs=>∃(g:Nat)(c:Array Value)(T:TypeId),(φ id).g=some g∧w.heap[g]?=some (.cells c T (0,0))∧c.size=cs.length∧(∀(i:Nat)v x,cs[i]?=some v→c[i]?=some x→an P μ φ v x)∧(∀(i:Nat)(x:Value),c[i]?=some x→x.oneCell'=true)∧(φ id).len=cs.length
 |.arr sz et es=>aN P μ φ w id sz et es
 |.tC sz et es=>aN P μ φ w id sz et es∧∀g,(φ id).g=some g→(μ g).isSome
 |.map kt es=>∃(g:Nat)(en:Array MapEntry)(clock:Nat)(kk:List Kd),(φ id).g=some g∧w.heap[g]?=some (.map en clock)∧en.size=es.length∧vz P kt=some kk∧(∀(i:Nat)k v,es[i]?=some (k,v)→zr P kt kk k=true)∧mF en clock∧(∀(i:Nat)k v e,es[i]?=some (k,v)→en[i]?=some e→ao P μ k e.key∧ao P μ v e.val)
 |.nest sz et es=>bd P μ φ w id sz et es
 |.fu kt e0 es=>∃(g:Nat)(en:Array MapEntry)(clock:Nat)(kk:List Kd),(φ id).g=some g∧w.heap[g]?=some (.map en clock)∧en.size=es.length∧vz P kt=some kk∧(∀(i:Nat)k v,es[i]?=some (k,v)→zr P kt kk k=true)∧mF en clock∧(∀(i:Nat)k v e,es[i]?=some (k,v)→en[i]?=some e→ao P μ k e.key∧(match v with
  |.mE s rs=>aN P μ (fun _=>((φ id).row i 0).up) w 0 s e0 rs∧an P μ (fun _=>((φ id).row i 0).up) (.os 0) e.val
  |v=>ao P μ v e.val))
 |.iter t es cur=>∃(g mg:Nat)(en:Array MapEntry)(clock:Nat)(seen:Array Nat),(φ id).g=some g∧w.heap[g]?=some (.mapIter (some mg) clock seen clock)∧μ mg=some (.map en clock)∧mF en clock∧(lO en seen).length=es.length∧(∀(i:Nat)k v e,es[i]?=some (k,v)→(lO en seen)[i]?=some e→ao P μ k e.key∧ao P μ v e.val)∧∀k v,cur=some (k,v)→∃(i:Nat)(e:MapEntry),en[i]?=some e∧seen.back? =some e.born∧ao P μ k e.key∧ao P μ v e.val
 |.loop st=>∃(g:Nat)(rc:Loop),(φ id).g=some g∧w.heap[g]?=some (.loop (st.obj rc))
def bK.jV:bK→Bool
 |.tC .. =>false
 |_=>true
structure bE where
 w:World
 mu:Ro
 sv:Nat→Value
 dK:Ro:=fun _=>none
 nC:Ro:=fun _=>none
 rc:Nat→Option (Nat×Loop):=fun _=>none
abbrev bE.heap(B:bE):Array Obj:=B.w.heap
def bK.owns(b:bK)(p:aI)(g:Nat):Prop:=p.g=some g∨∃i off,b.rowAt i off=true∧(p.row i off).g=some g
def bK.apart(b:bK)(p:aI):Prop:=∀i off g,b.rowAt i off=true→(p.row i off).g=some g→p.g≠some g∧∀i' yr,b.rowAt i' yr=true→(p.row i' yr).g=some g→i'=i∧yr=off
structure aA(P:Program)(G:Nat→Option (List PV))(w0:bE)(μ:Ro)(φ:Nat→aI)(m:Mem)(w:World):Prop where
 below:lL w0.heap.size w0.w w
 ro:∀b o,μ b=some o→w.heap[b]?=some o
 aM:∀g cs,G g=some cs→Cj P μ g cs
 dJ:∀id b,m id=some b→gM P μ φ w id b
 own:∀id b g,m id=some b→b.owns (φ id) g→w0.heap.size≤g∧(b.jV=true→μ g=none)
 inj:∀Xb id2 b1 b2 g,m Xb=some b1→m id2=some b2→b1.owns (φ Xb) g→b2.owns (φ id2) g→Xb=id2
 apart:∀id b,m id=some b→b.apart (φ id)
 fT:∀j cs id,m j=some (.box cs)→cu id cs=true→(m id).isSome=true
 base:∀b o,μ b=some o→b<w0.heap.size→w0.mu b=some o
 dK:∀b o,w0.dK b=some o→μ b=some o
 Gd:∀id st,m id=some (.loop st)→∃g rc,(φ id).g=some g∧w0.rc id=some (g,rc)∧w.heap[g]?=some (.loop (st.obj rc))
def bY(nt:Nat)(w0:bE)(a:Act):Nat→Value:=fun t=>if t<nt then a.tmps.getD t undef else w0.sv t
theorem tP{nt:Nat}{w0:bE}{a:Act}{t:Nat}(h:t<nt):bY nt w0 a t=a.tmps.getD t undef:=T0 h
def Marks(B:Nat)(nC μ:Ro)(ds:List Deferred):Prop:=∃Ds:List Nat,ds=Ds.map (fun D=>{target:=.collected D,args:= #[]})∧Ds.Nodup∧∀D∈Ds,B≤D∧nC D=none∧μ D=some (.deferred (some []))
theorem Marks.nil(B:Nat)(nC μ:Ro):Marks B nC μ []:=⟨[],rfl,.nil,by simp⟩
theorem Marks.mono{B:Nat}{nC μ μ':Ro}(h:∀b o,μ b=some o→μ' b=some o){ds:List Deferred}:Marks B nC μ ds→Marks B nC μ' ds
 |⟨Ds,e,hn,hD⟩=>⟨Ds,e,hn,fun D hd=>⟨(hD D hd).1,(hD D hd).2.1,h _ _ (hD D hd).2.2⟩⟩
structure Rel(P:Program)(G:Nat→Option (List PV))(nt:Nat)(w0:bE)(μ:Ro)(φ:Nat→aI)(f:Fr)(m:Mem)(a:Act)(w:World):Prop extends aA P G w0 μ φ m w where
 size:a.tmps.size=nt
 defers:Marks w0.heap.size w0.nC μ a.defers
 nC:∀b o,w0.nC b=some o→w0.dK b=some o
 fr:∀t,an P μ φ (f t) (bY nt w0 a t)
 live:∀t id,(f t).has id=true→(m id).isSome=true
section
variable {P:Program} {μ μ':Ro} {φ φ':Nat→aI}
variable{x:Value}
theorem Gf(h:∀b o,μ b=some o→μ' b=some o){b o:Nat}(hx:cellAt μ b o=some x):cellAt μ' b o=some x:=by grind [cellAt]
variable{p:PV}
theorem ao.mono(h:∀b o,μ b=some o→μ' b=some o)(hp:ao P μ p x):ao P μ' p x:=by
 induction hp with
 |int h=>exact .int h
 |bool=>exact .bool
 |str h=>exact .str h
 |agg h1 _ h3 ih=>exact .agg h1 ih h3
 |aG h1 _ ih=>exact .aG h1 ih
 |tJ=>exact .tJ
 |rp X h1 _ h3 ih=>exact .rp X (fun i p hi=>Gf h (h1 i p hi)) ih h3
 |lA=>exact .lA
 |M9 h=>exact .M9 h
 |rs X h1 h2 h3 h4 _ h6 ih=>exact .rs X h1 h2 h3 (fun i e j p hi hj=>Gf h (h4 i e j p hi hj)) ih h6
 |rr=>exact .rr
 |rm h1 h2 h3 h4 h5 _ _ ih1 ih2=>exact .rm (h _ _ h1) h2 h3 h4 h5 ih1 ih2
 |GY=>exact .GY
 |fn h1 _ ih=>exact .fn h1 ih
 |Xa=>exact .Xa
 |abl=>exact .abl
 |bad=>exact .bad
theorem Cj.mono(h:∀b o,μ b=some o→μ' b=some o){g:Nat}{cs:List PV}(hv:Cj P μ g cs):Cj P μ' g cs:=⟨hv.rep.mono h,let⟨c,T,z,h1,h2⟩:=hv.size;⟨c,T,z,h _ _ h1,h2⟩⟩
theorem bO{id:Nat}{v:V}:∀{cs:List V},v∈cs→v.has id=true→cu id cs=true
 |c::r,hm,hv=>by
  rcases alq.1 hm with rfl|hm
  ·simp[cu,hv]
  ·simp[cu,bO hm hv]
theorem cN{id:Nat}:∀{cs:List V},cu id cs=true↔∃v∈cs,v.has id=true
 |[]=>by simp[cu]
 |c::r=>by simp[cu,cN (cs:=r)]
theorem BH{id:Nat}{v:V}:∀{cs:List V},v∈cs→v.zV id=true→DL id cs=true
 |c::r,hm,hv=>by
  rcases alq.1 hm with rfl|hm
  ·simp[DL,hv]
  ·simp[DL,BH hm hv]
theorem an.mono(h:∀b o,μ b=some o→μ' b=some o){v:V}{x:Value}(hv:an P μ φ v x)(hφ:∀id,v.has id=true→φ' id=φ id):an P μ' φ' v x:=by
 induction hv with
 |pv hp=>exact .pv (hp.mono h)
 |fO=>exact .fO
 |op hg=>exact .op (by simp_all[V.has])
 | @oe id i off g hg=>have e:=hφ id (by simp[V.has]);have:=an.oe (P:=P) (μ:=μ') (φ:=φ') (id:=id) (i:=i) (off:=off) (g:=g) (by rw[e];omega);simp_all
 | @vt id hg=>exact .vt (by rw[hφ id (by simp[V.has])];omega)
 | @os id g hg=>have e:=hφ id (by simp[V.has]);have:=an.os (P:=P) (μ:=μ') (φ:=φ') (id:=id) (g:=g) (by rw[e];omega);simp_all
 | @tQ id hg=>exact .tQ (by rw[hφ id (by simp[V.has])];omega)
 | @fS id lo len cap g a hg hl ha hc hc'=>have e:=hφ id (by simp[V.has]);exact an.fS (P:=P) (μ:=μ') (φ:=φ') (id:=id) (lo:=lo) (len:=len) (cap:=cap) (g:=g) (a:=a) (by rw[e];omega) (by rw[e];omega) (by rw[e];omega) hc (by rw[e];omega)
 | @LR id i off hg=>exact .LR (by rw[hφ id (by simp[V.has])];omega)
 | @zU id i off g hg=>have e:=hφ id (by simp[V.has]);have:=an.zU (P:=P) (μ:=μ') (φ:=φ') (id:=id) (i:=i) (off:=off) (g:=g) (by rw[e];omega);simp_all
 | @DJ id i off s j off2 g hg hs=>have e:=hφ id (by simp[V.has]);exact .DJ (by rw[e];omega) (by rw[e];omega)
 | @om id g hg=>exact .om (by rw[hφ id (by simp[V.has])];omega)
 | @yl id g hg=>exact .yl (by rw[hφ id (by simp[V.has])];omega)
 | @it id g hg=>exact .it (by rw[hφ id (by simp[V.has])];omega)
 |fn h1 _ ih=>exact .fn h1 (fun i p x hi hx=>ih i p x hi hx (fun id hid=>hφ id (by simp only[V.has];exact bO (alf hi) hid)))
 |agg h1 _ h3 ih=>exact .agg h1 (fun i p x hi hx=>ih i p x hi hx (fun id hid=>hφ id (by simp only[V.has];exact bO (alf hi) hid))) h3
 |aG h1 _ ih=>exact .aG h1 (fun i p x hi hx=>ih i p x hi hx (fun id hid=>hφ id (by simp only[V.has];exact bO (alf hi) hid)))
 |top=>exact .top
variable{v:V}
theorem an.acW(h:∀b o,μ b=some o→μ' b=some o)(hv:an P μ φ v x)(hφ:∀id,v.has id=true→(φ' id).toGe=(φ id).toGe∧(v.zV id=true→φ' id=φ id)):an P μ' φ' v x:=by
 induction hv with
 |pv hp=>exact .pv (hp.mono h)
 |fO=>exact .fO
 |op hg=>exact .op (by simp_all[V.has])
 | @oe id i off g hg=>have e:=(hφ id (by simp[V.has])).1;have:=an.oe (P:=P) (μ:=μ') (φ:=φ') (id:=id) (i:=i) (off:=off) (g:=g) (by rw[e];omega);simp_all
 | @vt id hg=>exact .vt (by rw[(hφ id (by simp[V.has])).1];omega)
 | @os id g hg=>have e:=(hφ id (by simp[V.has])).1;have:=an.os (P:=P) (μ:=μ') (φ:=φ') (id:=id) (g:=g) (by rw[e];omega);simp_all
 | @tQ id hg=>exact .tQ (by rw[(hφ id (by simp[V.has])).1];omega)
 | @fS id lo len cap g a hg hl ha hc hc'=>have e:=(hφ id (by simp[V.has])).1;exact an.fS (P:=P) (μ:=μ') (φ:=φ') (id:=id) (lo:=lo) (len:=len) (cap:=cap) (g:=g) (a:=a) (by rw[e];omega) (by rw[e];omega) (by rw[e];omega) hc (by rw[e];omega)
 | @LR id i off hg=>exact .LR (by rw[(hφ id (by simp[V.has])).2 (by simp[V.zV])];omega)
 | @zU id i off g hg=>have e:=(hφ id (by simp[V.has])).2 (by simp[V.zV]);have:=an.zU (P:=P) (μ:=μ') (φ:=φ') (id:=id) (i:=i) (off:=off) (g:=g) (by rw[e];omega);simp_all
 | @DJ id i off s j off2 g hg hs=>have e:=(hφ id (by simp[V.has])).2 (by simp[V.zV]);exact .DJ (by rw[e];omega) (by rw[e];omega)
 | @om id g hg=>exact .om (by rw[(hφ id (by simp[V.has])).1];omega)
 | @yl id g hg=>exact .yl (by rw[(hφ id (by simp[V.has])).1];omega)
 | @it id g hg=>exact .it (by rw[(hφ id (by simp[V.has])).1];omega)
 |fn h1 _ ih=>exact .fn h1 (fun i p x hi hx=>ih i p x hi hx (fun id hid=>⟨(hφ id (by simp only[V.has];exact bO (alf hi) hid)).1,fun h2=>(hφ id (by simp only[V.has];exact bO (alf hi) hid)).2 (by simp only[V.zV];exact BH (alf hi) h2)⟩))
 |agg h1 _ h3 ih=>exact .agg h1 (fun i p x hi hx=>ih i p x hi hx (fun id hid=>⟨(hφ id (by simp only[V.has];exact bO (alf hi) hid)).1,fun h2=>(hφ id (by simp only[V.has];exact bO (alf hi) hid)).2 (by simp only[V.zV];exact BH (alf hi) h2)⟩)) h3
 |aG h1 _ ih=>exact .aG h1 (fun i p x hi hx=>ih i p x hi hx (fun id hid=>⟨(hφ id (by simp only[V.has];exact bO (alf hi) hid)).1,fun h2=>(hφ id (by simp only[V.has];exact bO (alf hi) hid)).2 (by simp only[V.zV];exact BH (alf hi) h2)⟩))
 |top=>exact .top
theorem an.Ck(h:∀b o,μ b=some o→μ' b=some o)(hv:an P μ φ v x):an P μ' φ v x:=hv.mono h fun _ _=>rfl
theorem an.kill(id:Nat)(hv:an P μ φ v x):an P μ φ (vA id v) x:=by
 unfold vA;cases v.has id<;>simp
 ·omega
 ·exact .top
theorem an.Cl(id:Nat)(hv:an P μ φ v x):an P μ φ (pR id v) x:=by
 unfold pR;cases v.zV id<;>simp
 ·omega
 ·exact .top
theorem BI{id j:Nat}(h:(pR id v).has j=true):v.has j=true∧(pR id v).zV id=false:=by grind [pR,id,V.has]
theorem ep.pure{R:Ge}{w:World}(h:ao P μ p x):ep P μ R w p x:=by
 unfold ep;split
 ·cases h
 omega
theorem ep.Sd{R:Ge}{w:World}(h:ep P μ R w p x)(hp:p.isRow=false):ao P μ p x:=by
 unfold ep at h;split at h
 ·cases hp
 omega
theorem ao.Hc(h:ao P μ p x):p.isRow=false:=by cases h<;>rfl
theorem Af{id j:Nat}(h:(vA id v).has j=true):v.has j=true∧j≠id:=by grind [vA,id,V.has]
end
section
variable {P:Program} {G:Nat→Option (List PV)} {w0:bE} {μ:Ro} {φ:Nat→aI} {f:Fr} {m:Mem} {w:World}
@[simp] theorem ajj(p:PV)(id:Nat):(V.pv p).has id=false:=by rfl
@[simp] theorem ajf(id:Nat):V.top.has id=false:=by rfl
@[simp] theorem af3(id:Nat):V.fO.has id=false:=by rfl
theorem Se(cs:List PV)(id:Nat):cu id (cs.map .pv)=false:=by
 induction cs with
 |nil=>rfl
 |cons c r ih=>simp[cu,ih]
theorem yt(k:IntKind)(n:Int):(Lit.int k n).wf=true↔k.min≤n∧n≤k.max:=by simp[Lit.wf]
theorem wf_wrap(k:IntKind)(n:Int):(Lit.int k (k.wrap n)).wf=true:=by rw[yt];cases k<;>simp only[IntKind.wrap,IntKind.min,IntKind.max,IntKind.signed,IntKind.bits]<;>simp<;>(try split)<;>omega
theorem ao.one{p:PV}{x:Value}(h:ao P μ p x)(h1:∀cs,p≠.agg cs)(h2:∀cs,p≠.aG cs)(h3:p≠.bad):x.oneCell'=true:=by cases h<;>first|rfl|exact Ks _ _|exact absurd rfl (h1 _)|exact absurd rfl (h2 _)|exact absurd rfl h3
theorem HI(c:Value):an P μ φ (EU c) c:=by
 unfold EU;split
 ·split
  ·exact .pv (.int (by omega))
  ·exact .top
 ·exact .pv .bool
 ·rename_i s;split
  ·exact .pv (.str (by omega))
  ·exact .top
 ·exact .pv .tJ
 ·exact .fO
 ·exact .pv .rr
 ·exact .pv .GY
 ·exact .pv .Xa
 ·exact .top
theorem HJ(c:Value)(id:Nat):(EU c).has id=false:=by unfold EU;split<;>(try split)<;>simp
theorem Kt(c:Value)(id:Nat):(Ki c).has id=false:=by
 unfold Ki;split
 ·rename_i cs;split
  ·simp only[V.has];rw[Bool.eq_false_iff];intro h;obtain⟨v,hv,hh⟩:=cN.1 h;obtain⟨x,_,rfl⟩:=alC.1 hv;rw[HJ]at hh;cases hh
  rfl
 ·exact HJ _ _
theorem xE(c:Value):an P μ φ (Ki c) c:=by
 unfold Ki;split
 ·rename_i cs;split
  ·rename_i hc;refine .agg (by simp) (fun i p x hi hx=>?_) (fun i x hx=>?_)
   ·grind [Option.some.injEq,HI]
   ·rw[al1]at hc;have:=hc x (by grind);cases x<;>first|rfl|(simp at this)
  ·exact .top
 ·exact HI _
end
section
variable {R:Type} {E:Env} {w0:bE} {μ:Ro} {φ:Nat→aI} {f:Fr} {m:Mem} {a:Act} {w:World}
theorem av(h:Rel E.P E.aM E.fn.ntmps w0 μ φ f m a w)(x:Operand):an E.P μ φ (bG E f x) (a.eval x)∧∀id,(bG E f x).has id=true→(m id).isSome=true:=by
 cases x with
 |tmp t=>
  simp only[bG];cases e:Nat.blt t E.fn.ntmps with
  |true=>
   have bQ:t<E.fn.ntmps:=by rwa[amt]at e
   have:=h.fr t;rw[tP bQ]at this;exact⟨this,h.live t⟩
  |false=>exact⟨.top,fun id hid=>by cases hid⟩
 |const c=>exact⟨xE c,fun id hid=>by simp_all[bG,Kt]⟩
 |global g=>
  simp only[bG];cases hg:E.aM g with
  |none=>exact⟨.top,by simp⟩
  |some cs=>exact⟨.pv (h.aM g cs hg).rep,by simp⟩
 |func g=>
  simp only[bG];cases e:Nat.blt g Hr with
  |true=>refine⟨?_,by simp[V.has,cu]⟩;have:=an.fn (P:=E.P) (μ:=μ) (φ:=φ) (f:=g) (cs:=[]) (xs:= #[]) (by simp) (by simp);rw[tR e]at this;exact this
  |false=>exact⟨.top,by simp⟩
variable{p:PV}
theorem qu{sz j:Nat}{q:PV}(h:(aQ sz p)[j]?=some q):j<sz∧q=cell p j:=by
 unfold aQ at h;have key:∀(n o j:Nat),(dY p o n)[j]?=some q→j<n∧q=cell p (o+j):=by
  intro n;induction n with
  |zero=>intro o j hj;simp[dY]at hj
  |succ n ih=>
   intro o j hj;cases j with
   |zero=>simp_all[dY]
   |succ j=>simp only[dY,am2]at hj;grind
 grind
theorem bw(sz:Nat)(p:PV):(aQ sz p).length=sz:=by
 unfold aQ;have:∀n o,(dY p o n).length=n:=by
  intro n;induction n with
  |zero=>intro o;rfl
  |succ n ih=>intro o;simp[dY,ih]
 exact this _ _
theorem fE{sz:Nat}(h:p.cells.length=sz):aQ sz p=p.cells:=by
 apply alL;intro j;by_cases hj:j<sz
 ·have h1:j<(aQ sz p).length:=by rw[bw];omega
  have h2:=qu (AI h1);rw[AI h1,h2.2,cell,anP,AI (by omega)];rfl
 simp_all[ams,bw]
theorem ao.Cm{P:Program}{μ:Ro}{n:Nat}{cs:List PV}{x:Value}(h:ao P μ (.agg cs) x)(hn:cs.length=n):ao P μ (.agg (aQ n (.agg cs))) x:=by simp_all[fE,PV.cells]
variable{t:TypeId}{k:PV→Option R}
theorem ma{r:R}(h:iD E t p k=some r):∃q,(∀(R':Type)(k':PV→Option R'),iD E t p k'=k' q)∧k q=some r∧(∀(P:Program)(μ:Ro)x,ao P μ p x→ao P μ q x)∧q≠.bad∧(∀cs,q≠.aG cs)∧(aD E.P t=false→∀cs,q≠.agg cs):=by
 unfold iD at h;split at h
 ·rename_i q hu;obtain⟨n,hn,hk⟩:=M1.1 h;have hp:p=.int q n:=by cases p<;>simp[asInt]at hn;simp_all
  grind [iD]
 ·rename_i hu;obtain⟨n,hn,hk⟩:=M1.1 h;have hp:p=.bool n:=by cases p<;>simp[asBool]at hn;subst hn;rfl
  grind [iD]
 ·rename_i hu;obtain⟨n,hn,hk⟩:=M1.1 h;have hp:p=.str n:=by cases p<;>simp[aT]at hn;subst hn;rfl
  grind [iD]
 ·rename_i e hu;obtain⟨es,hn,hk⟩:=M1.1 h;refine⟨.rs (aV E.P e) es,fun R' k'=>by simp[iD,hu,hn],hk,fun P μ x hx=>?_,by simp,by simp,by simp⟩;cases p<;>simp[ah]at hn;split at hn
  ·simp_all
  ·split at hn
   ·simp only[By]at hn;subst hn;cases hx with
    |lA=>exact .lA
    |M9 h=>exact .M9 h
    |rs X h1 h2 _ _ _ _=>exact .M9 h2
   ·cases hn
 ·rename_i fs hu;obtain⟨u,hn,hk⟩:=M1.1 h;refine⟨_,fun R' k'=>by simp[iD,hu,hn],hk,fun P μ x hx=>?_,by simp,by simp,by simp[aD,hu]⟩;cases p<;>simp[asAgg]at hn;exact hx.Cm hn
 ·rename_i n e hu;obtain⟨u,hn,hk⟩:=M1.1 h;refine⟨_,fun R' k'=>by simp[iD,hu,hn],hk,fun P μ x hx=>?_,by simp,by simp,by simp[aD,hu]⟩;cases p<;>simp[asAgg]at hn;exact hx.Cm hn
 ·grind [iD]
 ·rename_i kt et hu;unfold cM at h;grind [iD,cM]
 ·grind [iD]
 ·rename_i ms hu;obtain⟨n,hn,hk⟩:=M1.1 h;have hp:p=.ifc n:=by cases p<;>simp[R7]at hn;subst hn;rfl
  grind [iD]
 ·cases h
theorem NA{v:V}{k:V→Option R}{r:R}(h:DM E t v k=some r):∃u,(∀(R':Type)(k':V→Option R'),DM E t v k'=k' u)∧k u=some r∧(∀(P:Program)(μ:Ro)(φ:Nat→aI)x,an P μ φ v x→an P μ φ u x)∧(∀id,u.has id=true→v.has id=true):=by
 unfold DM at h;split at h
 ·obtain⟨q,h1,h2,h3,_⟩:=ma h;exact⟨.pv q,fun R' k'=>by simp[DM,h1],h2,fun P μ φ x hx=>by cases hx with|pv hp=>exact .pv (h3 _ _ _ hp),by simp⟩
 ·cases h
 ·rename_i h1 h2;split at h
  ·rename_i hu;refine⟨v,fun R' k'=>?_,h,fun _ _ _ _ hx=>hx,fun _ h=>h⟩;unfold DM;simp_all
  ·cases h
theorem Ag{r:R}(h:iD E t p k=some r):∃d,E.P.underlying t=some d:=by unfold iD at h;grind
theorem Ku{v:V}{k:V→Option R}{r:R}(h:DM E t v k=some r):∃d,E.P.underlying t=some d:=by
 unfold DM at h;split at h
 ·exact Ag h
 ·cases h
 ·split at h
  ·rename_i hu;exact alK.1 hu
  ·cases h
end
section
variable {P:Program} {G:Nat→Option (List PV)} {w0:bE} {μ:Ro} {φ:Nat→aI} {m:Mem} {w:World}
variable{t:TypeId}{d:TypeDesc}
theorem Gg(h:P.underlying t=some d):(P.info? t).map (·.size)=some (aV P t):=by grind [Program.underlying,aV]
theorem HK(h:aD P t=true):∃d,P.underlying t=some d∧d.isRow=true:=by unfold aD at h;grind
theorem E8(hu:P.underlying t=some d):(isAgg t).run P w=.ok (aD P t) w:=by unfold isAgg;simp only[Sem.run_bind,run_underlying hu,Result.andThen_ok,aD,hu];cases d<;>rfl
theorem Gh(hu:P.underlying t=some d):(sizeOf t).run P w=.ok (aV P t) w:=by
 have:=Gg hu;cases hi:P.info? t with
 |none=>simp[hi]at this
 |some i=>simp[sizeOf,typeInfo,hi,aV]
variable{o:Nat}
theorem iE{b:Nat}{y:Value}(hu:P.underlying t=some d)(ha:aD P t=false)(hc:w.cell? ⟨b,o,none⟩=some y):(Instr.loadAt t (.pointer (some ⟨b,o,none⟩))).run P w=.ok y w:=by simp only[Instr.loadAt,Instr.sureAddr,loadVar,Sem.run_bind,Sem.run_pure,Result.andThen_ok,E8 hu,ha];simp[load,Sem.run,hc]
theorem nM{b:Nat}{cs:List Value}(ha:aD P t=true)(hc:w.rangeAt b o cs)(hl:cs.length=aV P t):(Instr.loadAt t (.pointer (some ⟨b,o,none⟩))).run P w=.ok (.agg cs.toArray) w:=by grind [HK,run_loadAt_mid,Gg]
theorem aA.cellAt(hM:aA P G w0 μ φ m w){b o:Nat}{x:Value}(h:cellAt μ b o=some x):w.cell? ⟨b,o,none⟩=some x:=by
 unfold Go.Ab.cellAt at h;split at h
 ·rename_i c t fz hb;simp[World.cell?,hM.ro _ _ hb,h]
 ·cases h
theorem dA{g:Nat}{c:Array Value}{T:TypeId}{fz:Nat×Nat}(h:w.heap[g]?=some (.cells c T fz)):w.cell? ⟨g,o,none⟩=c[o]?:=by simp[World.cell?,h]
theorem iF{T:Type}{l:List T}{n i:Nat}{x:T}(h:(l.take n)[i]?=some x):i<n∧l[i]?=some x:=by grind
theorem qv{T:Type}{l:List T}{n i:Nat}{x:T}(h:((l.drop o).take n)[i]?=some x):i<n∧l[o+i]?=some x:=by grind
theorem ao.adG{cs:List PV}{b n:Nat}{X:Nat→Value}(hM:aA P G w0 μ φ m w)(h1:∀(i:Nat)p,cs[i]?=some p→Go.Ab.cellAt μ b (o+i)=some (X i))(h2:∀(i:Nat)p,cs[i]?=some p→ao P μ p (X i))(h3:∀i:Nat,i<cs.length→(X i).oneCell'=true)(hn:n≤cs.length):w.rangeAt b o ((List.range n).map X)∧ao P μ (.agg (cs.take n)) (.agg ((List.range n).map X).toArray):=by
 have hX:∀i x,((List.range n).map X)[i]?=some x→i<n∧x=X i:=by grind
 refine⟨fun j v hv=>?_,.agg (by simp;omega) (fun i p x hi hx=>?_) (fun i x hx=>?_)⟩
 ·obtain⟨hj,rfl⟩:=hX j v hv;exact hM.cellAt (h1 j _ (AI (by omega)))
 ·grind
 grind
end
section
variable {R:Type} {E:Env}
def Quiet(v:V)(m:Mem):Prop:=∀id,v.has id=true→(m id).isSome=true
theorem gX{g:V→Option PV}{cs:List V}{ps:List PV}(h:sR g cs=some ps):ps.length=cs.length∧∀(i:Nat)p,ps[i]?=some p→∃v,cs[i]?=some v∧g v=some p:=by
 induction cs generalizing ps with
 |nil=>simp[sR]at h;subst h;simp
 |cons c r ih=>simp only[sR]at h;obtain⟨p,hp,h⟩:=M1.1 h;obtain⟨ps',rT,h⟩:=M1.1 h;grind
variable{s off:Nat}{t:TypeId}{e:PV}
theorem Kv{k:V→Option R}{r:R}(h:wo E s t e off k=some r):∃v,(∀(R':Type)(k':V→Option R'),wo E s t e off k'=k' v)∧k v=some r∧(∀id,v.has id=false)∧∀(μ:Ro)(φ:Nat→aI)(w:World)(g o:Nat)(c:Array Value)(T:TypeId),w.heap[g]?=some (.cells c T (0,0))→e.cells.length=s→(∀(j:Nat)p x,e.cells[j]?=some p→c[o+j]?=some x→ao E.P μ p x)→(∀(i:Nat)(x:Value),i<o+s→c[i]?=some x→x.oneCell'=true)→o+s≤c.size→∃y,(Instr.loadAt t (.pointer (some ⟨g,o+off,none⟩))).run E.P w=.ok y w∧an E.P μ φ v y:=by
 unfold wo at h;split at h
 ·rename_i ha;split at h
  ·rename_i hb;refine⟨_,fun R' k'=>by simp[wo,ha,hb],h,by simp,fun μ φ w g o c T hg hs hc h1 hl=>?_⟩;have hR:w.rangeAt g (o+off) ((c.toList.drop (o+off)).take (aV E.P t)):=fun j v hv=>by grind [qv,dA]
   refine⟨_,nM ha hR (by simp;omega),.pv (.agg (by simp[bw];omega) (fun i p x hi hx=>?_) (fun i x hx=>?_))⟩
   ·grind [qv,fE,Nat.add_assoc]
   grind
  ·cases h
 ·rename_i ha;have ha:aD E.P t=false:=by simpa using ha
  split at h
  ·rename_i p hp;obtain⟨q,h1,h2,h3,_⟩:=ma h;obtain⟨d,hu⟩:=Ag h;refine⟨.pv q,fun R' k'=>by simp[wo,ha,hp,h1],h2,by simp,fun μ φ w g o c T hg hs hc _ hl=>?_⟩;rw[fE hs]at hp;have Uw:off<e.cells.length:=(OF.1 hp).1;have hx:c[o+off]?=some c[o+off]:=ald (by omega);exact⟨_,iE hu ha (by rw[dA hg];omega),.pv (h3 _ _ _ (hc off p _ hp hx))⟩
  ·cases h
variable{p:PV}
theorem Ux{k:PV→Option R}{r:R}(h:iD E t p k=some r):p.isRow=false∧p≠.bad:=by
 cases p with
 |mE s es=>exfalso;unfold iD at h;split at h<;>simp[asInt,asBool,aT,ah,asAgg,R7,cM]at h
 |bad=>exfalso;unfold iD at h;split at h<;>simp[asInt,asBool,aT,ah,asAgg,R7,cM]at h
 |_=>exact⟨rfl,by simp⟩
theorem Kw(h:cell e off=p)(hp:p≠.bad):e.cells[off]?=some p:=by grind [cell,absurd]
theorem NB{rs:List PV}(h:b9 s p=some rs):p=.mE s rs:=by unfold b9 at h;grind
variable{P:Program}{μ:Ro}{φ:Nat→aI}{w:World}{id i:Nat}{et:TypeId}{es:List PV}
theorem bd.cell{sz:Nat}(h:bd P μ φ w id sz et es){g:Nat}(hg:(φ id).g=some g)(he:es[i]?=some e)(hp:e.cells[off]?=some p):∃c T x,w.heap[g]?=some (.cells c T (0,0))∧c[i*sz+off]?=some x∧ep P μ ((φ id).row i off) w p x∧x.oneCell'=true:=by
 obtain⟨a1,a2,a3,a4,a5,a6,a7⟩:=h;rw[hg]at a7;obtain⟨c,T,c1,c2,c3,c4,c5⟩:=a7;have hi:i<es.length:=(OF.1 he).1;have ho:off<sz:=by grind
 have h1:(i+1)*sz≤es.length*sz:=alo _ (by omega);have h2:es.length*sz≤(φ id).cap*sz:=alo _ c3;rw[amb]at h1;have bQ:i*sz+off<c.size:=by omega
 exact⟨c,T,c[i*sz+off],c1,ald bQ,c4 i e off p _ he hp (ald bQ),c5 (i*sz+off) _ (by omega) (ald bQ)⟩
theorem bd.row{sz:Nat}(h:bd P μ φ w id sz et es){rs:List PV}(he:es[i]?=some e)(hr:b9 s (Go.Ab.cell e off)=some rs):∃g x,(φ id).g=some g∧w.cell? ⟨g,i*sz+off,none⟩=some x∧eQ P μ ((φ id).row i off) w s rs x∧e.cells[off]?=some (.mE s rs):=by
 have hp:=Kw (NB hr) (by simp);cases hg:(φ id).g with
 |none=>obtain⟨a1,a2,a3,a4,a5,a6,a7⟩:=h;simp_all
 |some g=>obtain⟨c,_,x,c1,c2,c3,_⟩:=h.cell hg he hp;exact⟨g,x,rfl,by rw[dA c1];omega,c3,hp⟩
theorem an.adH{ν:Ro}{x:Value}(h:an P μ (fun _=>((φ id).row i off).up) (.os 0) x):an P ν φ (.zU id i off) x:=by
 cases h with
 |vt h=>exact .LR h
 |os h=>exact .zU h
theorem an.P8{ν:Ro}{x:Value}(h:an P μ φ (.zU id i off) x):an P ν (fun _=>((φ id).row i off).up) (.os 0) x:=by
 cases h with
 |LR h=>exact .vt h
 |zU h=>exact .os (id:=0) (φ:=fun _=>((φ id).row i off).up) h
theorem Kx{s:Nat}:∀{es:List PV}{k:Nat}{p:PV},(DK s es)[k]?=some p→∃i j e,k=i*s+j∧j<s∧es[i]?=some e∧(aQ s e)[j]?=some p
 |[],k,p,h=>by simp[DK]at h
 |e::es,k,p,h=>by
  simp only[DK]at h;rw[alV,bw]at h;split at h
  ·exact⟨0,k,e,by omega,‹_›,rfl,h⟩
  ·obtain⟨i,j,e',h1,h2,h3,h4⟩:=Kx h;exact⟨i+1,j,e',by rw[amb];omega,h2,by simpa using h3,h4⟩
theorem Ky{s:Nat}:∀{es:List PV},(DK s es).length=es.length*s
 |[]=>by simp[DK]
 |e::es=>by simp only[DK,aln,bw,Ky,aiK,amb];omega
theorem Kz(h:EY E t s i off=true):aD E.P t=true∧i=0∧off=0∧∃n e,E.P.underlying t=some (.array n e)∧aV E.P e=s∧aD E.P e=true:=by
 unfold EY at h;split at h
 ·rename_i n e hu;simp only[ale]at h;grind [aD,Nat.eq_of_beq_eq_true]
 ·cases h
theorem aN.whole(hA:aN P μ φ w id s et es){g:Nat}(hg:(φ id).g=some g):∃xs:List Value,xs.length=es.length*s∧w.rangeAt g 0 xs∧ao P μ (.agg (DK s es)) (.agg xs.toArray):=by
 obtain⟨a1,a2,a3,a4,a5,a6,a7⟩:=hA;rw[hg]at a7;obtain⟨c,T,c1,c2,c3,c4,c5⟩:=a7;have hle:es.length*s≤c.size:=alH (alo _ c3) c2;refine⟨c.toList.take (es.length*s),by simp;omega,fun j v hv=>?_,.agg (by rw[Ky];simp;omega) (fun k p x hp hx=>?_) (fun k x hx=>?_)⟩
 ·grind [dA]
 ·obtain⟨i,j,e,rfl,hj,he,hp⟩:=Kx hp;grind [fE]
 grind
theorem Ny{own:Bool}{a:V}{m:Mem}{k:V→bD→Option R}{r:R}(h:sH E own t a m k=some r):∃v ft,(∀m2:Mem,(∀x∈ft,m2 x.2=m x.2)→∀(R':Type)(k':V→bD→Option R'),sH E own t a m2 k'=k' v ft)∧k v ft=some r∧(∀x∈ft,x.1=false)∧∀(G:Nat→Option (List PV))(w0:bE)(μ:Ro)(φ:Nat→aI)(w:World)(x:Value),aA E.P G w0 μ φ m w→an E.P μ φ a x→∃y,(Instr.loadAt t x).run E.P w=.ok y w∧an E.P μ φ v y∧Quiet v m:=by
 unfold sH at h;split at h
 ·rename_i cs;split at h
  ·rename_i ha;split at h
   ·rename_i hn;refine⟨_,_,fun m2 _ R' k'=>by simp[sH,ha,hn],h,by simp,fun G w0 μ φ w x hM hx=>?_⟩;cases hx with
    |pv hp=>cases hp with
     |rp X h1 h2 h3=>obtain⟨hr,hv⟩:=ao.adG hM h1 h2 h3 hn;exact⟨_,nM ha hr (by simp),.pv hv,by simp[Quiet]⟩
   ·cases h
  ·rename_i ha;have ha:aD E.P t=false:=by simpa using ha
   obtain⟨p,Na,h⟩:=M1.1 h;have hp1:cs[0]?=some p:=by simp_all[anv]
   obtain⟨q,h1,h2,h3,_⟩:=ma h;refine⟨_,_,fun m2 _ R' k'=>by simp[sH,ha,Na,h1],h2,by simp,fun G w0 μ φ w x hM hx=>?_⟩;obtain⟨d,hu⟩:=Ag h;cases hx with
   |pv hp=>cases hp with
    |rp X g1 g2 g3=>have hc:=hM.cellAt (g1 0 p hp1);exact⟨_,iE hu ha (by omega),.pv (h3 _ _ _ (g2 0 p hp1)),by simp[Quiet]⟩
 ·rename_i id off;split at h
  ·rename_i cs hm;split at h
   ·rename_i ha;split at h
    ·rename_i hn;refine⟨_,_,fun m2 cS R' k'=>by simp[sH,ha,hn,cS (false,id) (by simp),hm],h,by simp,fun G w0 μ φ w x hM hx=>?_⟩;cases hx with
     | @op _ _ g hg=>
      obtain⟨g',c,T,dn,hh,hs,hv,h1,JS⟩:=hM.dJ id _ hm;rw[hg]at dn;simp only[By]at dn;subst dn;have hR:w.rangeAt g off ((c.toList.drop off).take (aV E.P t)):=fun j v hv=>by grind [qv,dA]
      refine⟨_,nM ha hR (by simp;omega),.agg (by simp;omega) (fun i p x hi hx=>?_) (fun i x hx=>?_),?_⟩
      ·grind
      ·grind
      ·intro vq hid;simp only[V.has]at hid;obtain⟨v,hv,hh⟩:=cN.1 hid;exact hM.fT id cs vq hm (bO (anc (amG hv)) hh)
    ·cases h
   ·rename_i ha;have ha:aD E.P t=false:=by simpa using ha
    split at h
    ·rename_i ps rT;obtain⟨p,Na,h⟩:=M1.1 h;obtain⟨q,h1,h2,h3,_⟩:=ma h;refine⟨_,_,fun m2 cS R' k'=>by simp[sH,ha,cS (false,id) (by simp),hm,rT,Na,h1],h2,by simp,fun G w0 μ φ w x hM hx=>?_⟩;cases hx with
     | @op _ _ g hg=>
      obtain⟨g',c,T,dn,hh,hs,hvv,_⟩:=hM.dJ id _ hm;rw[hg]at dn;simp only[By]at dn;subst dn;obtain⟨f1,f2⟩:=gX rT;obtain⟨bQ,hp1⟩:=OF.1 Na;have Uw:off<cs.length:=by omega
      obtain⟨v,hv,nq⟩:=f2 off p Na;have hvp:v=.pv p:=by cases v<;>simp[WE]at nq;subst nq;rfl
      subst hvp;have hx:c[off]?=some c[off]:=ald (by omega);obtain⟨d,hu⟩:=Ag h;have hr:=hvv off _ _ hv hx;cases hr with
      |pv hr=>exact⟨_,iE hu ha (by rw[dA hh];omega),.pv (h3 _ _ _ hr),by simp[Quiet]⟩
    ·rename_i hnp;split at h
     ·rename_i v hv;obtain⟨u,h1,h2,h3,h4⟩:=NA h;refine⟨_,_,fun m2 cS R' k'=>by simp[sH,ha,cS (false,id) (by simp),hm,hnp,hv,h1],h2,by simp,fun G w0 μ φ w x hM hx=>?_⟩;cases hx with
      | @op _ _ g hg=>obtain⟨g',c,T,dn,hh,hs,hvv,_⟩:=hM.dJ id _ hm;rw[hg]at dn;simp only[By]at dn;subst dn;have Uw:off<cs.length:=(OF.1 hv).1;have hx:c[off]?=some c[off]:=ald (by omega);obtain⟨d,hu⟩:=Ku h;refine⟨_,iE hu ha (by rw[dA hh];omega),h3 _ _ _ _ (hvv off v _ hv hx),fun vq hid=>?_⟩;exact hM.fT id cs vq hm (bO (alf hv) (h4 vq hid))
     ·cases h
  ·cases h
 ·rename_i id i off;have key:∀(sz:Nat)(et:TypeId)(es:List PV),(m id=some (.arr sz et es)∨m id=some (.tC sz et es))→((es[i]?).bind fun e=>wo E sz t e off fun v=>k v [(false,id)])=some r→∃v,(∀(R':Type)(k':V→bD→Option R'),((es[i]?).bind fun e=>wo E sz t e off fun v=>k' v [(false,id)])=k' v [(false,id)])∧k v [(false,id)]=some r∧∀(G:Nat→Option (List PV))(w0:bE)(μ:Ro)(φ:Nat→aI)(w:World)(x:Value),aA E.P G w0 μ φ m w→an E.P μ φ (.oe id i off) x→∃y,(Instr.loadAt t x).run E.P w=.ok y w∧an E.P μ φ v y∧Quiet v m:=by
   intro sz et es hm hb;obtain⟨e,he,hb⟩:=M1.1 hb;obtain⟨v,h1,h2,h3,h4⟩:=Kv hb;refine⟨v,fun R' k'=>by simp[he,h1],h2,fun G w0 μ φ w x hM hx=>?_⟩;have hA:aN E.P μ φ w id sz et es:=by
    rcases hm with hm|hm
    ·exact hM.dJ id _ hm
    ·exact(hM.dJ id _ hm).1
   cases hx with
   | @oe _ _ _ g hg=>
    obtain⟨a1,a2,a3,a4,a5,a6,a7⟩:=hA;rw[hg]at a7;obtain⟨c,T,c1,c2,c3,c4,c5⟩:=a7;have hi:i<es.length:=(OF.1 he).1;obtain⟨y,hy,hv⟩:=h4 μ φ w g (i*sz) c T c1 (a5 i e he) (fun j p x hj hx=>c4 i e j p x he hj hx) (fun i' x sI hx=>c5 i' x (by
     have:(i+1)*sz≤es.length*sz:=alo _ (by omega);grind) hx) (by
     have:(i+1)*sz≤(φ id).cap*sz:=alo _ (by omega);grind)
    rw[a2];exact⟨y,hy,hv,fun id hid=>by simp_all⟩
  split at h
  ·rename_i sz et es hm;cases hw:EY E t sz i off with
   |true=>
    rw[hw]at h;simp only[cond_true]at h;split at h
    ·rename_i hl;obtain⟨ha,rfl,rfl,_⟩:=Kz hw;refine⟨_,_,fun m2 cS R' k'=>by have:=cS (false,id) (by simp);simp_all[sH,cond_true,T0],h,by simp,fun G w0 μ φ w x hM hx=>?_⟩;have hA:aN E.P μ φ w id sz et es:=hM.dJ id _ hm;cases hx with
     | @oe _ _ _ g hg=>obtain⟨xs,x1,x2,x3⟩:=hA.whole hg;rw[aow];exact⟨_,nM ha x2 (by omega),.pv x3,by simp[Quiet]⟩
    ·cases h
   |false=>rw[hw]at h;obtain⟨v,h1,h2,h3⟩:=key sz et es (.inl hm) h;exact⟨v,_,fun m2 cS R' k'=>by have:=cS (false,id) (by simp);simp_all[sH,cond_false],h2,by simp,h3⟩
  ·rename_i sz et es hm;obtain⟨v,h1,h2,h3⟩:=key sz et es (.inr hm) h;exact⟨v,_,fun m2 cS R' k'=>by have:=cS (false,id) (by simp);simp_all[sH],h2,by simp,h3⟩
  ·rename_i sz et es hm;split at h
   ·cases h
   ·rename_i ha;obtain⟨e,he,h⟩:=M1.1 h;have ha':aD E.P t=false:=by simpa using ha
    split at h
    ·rename_i ho;split at h
     ·rename_i JL hu;obtain⟨rs,hr,h⟩:=M1.1 h;refine⟨_,_,fun m2 cS R' k'=>by have:=cS (false,id) (by simp);simp_all[sH,acB,alr,IT],h,by simp,fun G w0 μ φ w x hM hx=>?_⟩;have hN:bd E.P μ φ w id sz et es:=hM.dJ id _ hm;obtain⟨g,y,hg,hc,nD,_⟩:=hN.row he hr;cases hx with
      |oe dn=>rw[hg]at dn;simp only[By]at dn;subst dn;rw[hN.2.1];refine⟨y,iE hu ha' hc,.adH nD.2,fun j hj=>?_⟩;have:=acA hj;subst this;rw[hm];rfl
     ·cases h
    ·rename_i ho;obtain⟨q,h1,h2,h3,_⟩:=ma h;obtain⟨hq1,hq2⟩:=Ux h;obtain⟨d,hu⟩:=Ag h;refine⟨_,_,fun m2 cS R' k'=>by have:=cS (false,id) (by simp);simp_all[sH,acB,alr,Wi,IN],h2,by simp,fun G w0 μ φ w x hM hx=>?_⟩;have hN:bd E.P μ φ w id sz et es:=hM.dJ id _ hm;cases hx with
     |oe hg=>obtain⟨c,_,y,c1,c2,c3,_⟩:=hN.cell hg he (Kw rfl hq2);rw[hN.2.1];exact⟨y,iE hu ha' (by rw[dA c1];omega),.pv (h3 _ _ _ (c3.Sd hq1)),by simp[Quiet]⟩
  ·cases h
 ·rename_i id i off s j off2;split at h
  ·rename_i sz et es hm;obtain⟨e,he,h⟩:=M1.1 h;obtain⟨rs,hr,h⟩:=M1.1 h;obtain⟨q,hq,h⟩:=M1.1 h;obtain⟨v,h1,h2,h3,h4⟩:=Kv h;refine⟨v,_,fun m2 cS R' k'=>by have:=cS (false,id) (by simp);simp_all[sH,alr],h2,by simp,fun G w0 μ φ w x hM hx=>?_⟩;have hN:bd E.P μ φ w id sz et es:=hM.dJ id _ hm;obtain⟨g,y,hg,hc,⟨⟨JL,hA⟩,hV⟩,_⟩:=hN.row he hr;cases hx with
   | @DJ _ _ _ _ _ _ g' dn hs=>obtain⟨a1,a2,a3,a4,a5,a6,a7⟩:=hA;have hgu:((φ id).row i off).up.g=some g':=dn;rw[hgu]at a7;obtain⟨c,T,c1,c2,c3,c4,c5⟩:=a7;have hj:j<rs.length:=(OF.1 hq).1;have e1:(j+1)*s≤rs.length*s:=alo _ (by omega);have e2:rs.length*s≤((φ id).row i off).up.cap*s:=alo _ c3;have e3:((φ id).row i off).up.cap*s≤c.size:=c2;rw[amb]at e1;obtain⟨y,hy,hv⟩:=h4 μ φ w g' (j*s) c T c1 (a5 j q hq) (fun l p x hl hx=>c4 j q l p x hq hl hx) (fun i' x sI hx=>c5 i' x (by omega) hx) (by omega);exact⟨y,hy,hv,fun id hid=>by simp_all⟩
  ·cases h
 ·cases h
end
section
variable {R:Type} {E:Env}
variable{s t:TypeId}{j o:Nat}
theorem Gi(h:DN E s j=some (o,t)):∃fs f,E.P.underlying s=some (.struct fs)∧fs[j]?=some f∧f.offset=o∧f.type=t∧aV E.P t≠0:=by unfold DN at h;grind
variable{P:Program}
theorem BJ(h:aV P t≠0):∃i,P.info? t=some i∧i.size=aV P t:=by
 unfold aV at*;cases hi:P.info? t with
 |none=>simp[hi]at h
 |some i=>simp
variable{w:World}
theorem jG(h:aV P t≠0):(sizeOf t).run P w=.ok (aV P t) w:=by obtain⟨i,hi,hs⟩:=BJ h;simp[sizeOf,typeInfo,hi,hs]
theorem vD{fs:Array Field}{f:Field}{b:Nat}(hu:P.underlying s=some (.struct fs))(hf:fs[j]?=some f)(hz:aV P f.type≠0):(Instr.fieldAt s (.pointer (some ⟨b,o,none⟩)) j).run P w=.ok (.pointer (some ⟨b,o+f.offset,none⟩)) w:=by simp_all[Instr.fieldAt,run_underlying,Instr.sureAddr,fieldPlace,jG,Addr.add_mid]
theorem xF{T:Type}{l:List T}{i:Nat}{x:T}(h:(l.drop o)[i]?=some x):l[o+i]?=some x:=by simp_all
theorem ao.LS{μ:Ro}{cs:List PV}{b:Nat}(n:Nat)(h:ao P μ (.rp cs) (.pointer (some ⟨b,o,none⟩))):ao P μ (.rp (cs.drop n)) (.pointer (some ⟨b,o+n,none⟩)):=by
 cases h with
 |rp X h1 h2 h3=>
  refine .rp (fun i=>X (n+i)) (fun i p hi=>?_) (fun i p hi=>h2 _ p (xF hi)) (fun i hi=>h3 _ ?_)
  ·grind
  ·simp at hi;omega
variable{x:V}{k:V→Option R}{r:R}
theorem JT(h:kr E s x j k=some r):∃v,(∀(R':Type)(k':V→Option R'),kr E s x j k'=k' v)∧k v=some r∧(∀id,v.has id=x.has id)∧∀(μ:Ro)(φ:Nat→aI)(w:World)(y:Value),an E.P μ φ x y→∃z,(Instr.fieldAt s y j).run E.P w=.ok z w∧an E.P μ φ v z:=by
 unfold kr at h;split at h
 ·rename_i o t ho;obtain⟨fs,f,hu,hf,rfl,rfl,hz⟩:=Gi ho;split at h
  ·rename_i cs;refine⟨_,fun R' k'=>by simp[kr,ho],h,by simp,fun μ φ w y hy=>?_⟩;cases hy with
   |pv hp=>cases hp with
    |rp X h1 h2 h3=>exact⟨_,vD hu hf hz,.pv (ao.LS _ (.rp X h1 h2 h3))⟩
  ·rename_i id off;refine⟨_,fun R' k'=>by simp[kr,ho],h,by simp[V.has],fun μ φ w y hy=>?_⟩;cases hy with
   |op hg=>exact⟨_,vD hu hf hz,.op hg⟩
  ·rename_i id i off;refine⟨_,fun R' k'=>by simp[kr,ho],h,by simp[V.has],fun μ φ w y hy=>?_⟩;cases hy with
   |oe hg=>exact⟨_,vD hu hf hz,by rw[al9];exact .oe hg⟩
  ·refine⟨_,fun R' k'=>by simp[kr,ho],h,by simp[V.has],fun μ φ w y hy=>?_⟩;cases hy with
   |DJ hg hs=>exact⟨_,vD hu hf hz,by rw[al9];exact .DJ hg hs⟩
  ·cases h
 ·cases h
theorem iG{e:TypeId}{q:IntKind}{i:Int}{ad:Addr}{len cap:Nat}(hu:P.underlying t=some (.slice e))(hz:aV P e≠0)(h0:0≤i)(h1:i<(len:Int)):(Instr.indexAt t (.slice (some ad) len cap) (.int q i)).run P w=.ok (.pointer (some (ad.add (i.toNat*aV P e)))) w:=by simp[Instr.indexAt,asIntOf,run_underlying hu,h0,h1,jG hz]
theorem mb{e:TypeId}{n:Nat}{q:IntKind}{i:Int}{ad:Addr}(hu:P.underlying t=some (.array n e))(hz:aV P e≠0)(h0:0≤i)(h1:i<(n:Int)):(Instr.indexAt t (.pointer (some ad)) (.int q i)).run P w=.ok (.pointer (some (ad.add (i.toNat*aV P e)))) w:=by simp[Instr.indexAt,asIntOf,run_underlying hu,h0,h1,jG hz,Instr.sureAddr]
theorem abm{es:List PV}{i:Int}{p:PV}(h:pG es i=some p):0≤i∧es[i.toNat]?=some p∧i<(es.length:Int):=by grind [pG]
theorem ao.Sf{μ:Ro}{sz:Nat}{es:List PV}{x:Value}{n:Nat}{p:PV}(h:ao P μ (.rs sz es) x)(hp:es[n]?=some p):∃b o cap,x=.slice (some ⟨b,o,none⟩) es.length cap∧ao P μ (.rp (aQ sz p)) (.pointer (some ⟨b,o+n*sz,none⟩)):=by
 cases h with
 |lA=>simp at hp
 |M9 _=>simp at hp
 | @rs _ _ b o cap X h1 h2 h3 h4 h5 h6=>refine⟨b,o,cap,rfl,?_⟩;rw[fE (h3 n p hp)];exact .rp (X n) (fun i q hi=>h4 n p i q hp hi) (fun i q hi=>h5 n p i q hp hi) (fun i hi=>h6 n p i _ hp (AI hi))
theorem JU{ix:V}{m:Mem}{k:V→bD→Option R}(h:dq E t x ix m k=some r):∃v ft,(∀m2:Mem,(∀x∈ft,m2 x.2=m x.2)→∀(R':Type)(k':V→bD→Option R'),dq E t x ix m2 k'=k' v ft)∧k v ft=some r∧(∀x∈ft,x.1=false)∧(∀id,v.has id=true→x.has id=true)∧∀(G:Nat→Option (List PV))(w0:bE)(μ:Ro)(φ:Nat→aI)(w:World)(y z:Value),aA E.P G w0 μ φ m w→an E.P μ φ x y→an E.P μ φ ix z→∃u,(Instr.indexAt t y z).run E.P w=.ok u w∧an E.P μ φ v u:=by
 unfold dq at h;split at h
 ·rename_i q i;split at h
  ·rename_i e s es hu;split at h
   ·rename_i hs;obtain⟨p,hp,hk⟩:=M1.1 h;refine⟨_,_,fun m2 _ R' k'=>by simp only[dq,hu];rw[T0 hs,hp];rfl,hk,by simp,by simp,fun G w0 μ φ w y z hM hy hz=>?_⟩;obtain⟨h0,hp,hl⟩:=abm hp;cases hz with
    |pv hz=>cases hz with
     |int KA=>
      cases hy with
      |pv hy=>obtain⟨b,o,cap,rfl,hr⟩:=hy.Sf hp;refine⟨_,iG hu (by omega) h0 hl,?_⟩;rw[Addr.add_mid,←hs.1];exact .pv hr
   ·cases h
  ·rename_i e id hu;have key:∀(s:Nat)(et:TypeId)(es:List PV),(m id=some (.arr s et es)∨m id=some (.tC s et es))→s=aV E.P e∧0<s→ar i es.length→∀(G:Nat→Option (List PV))(w0:bE)(μ:Ro)(φ:Nat→aI)(w:World)(y z:Value),aA E.P G w0 μ φ m w→an E.P μ φ (.os id) y→an E.P μ φ (.pv (.int q i)) z→∃u,(Instr.indexAt t y z).run E.P w=.ok u w∧an E.P μ φ (.oe id i.toNat 0) u:=by
    intro s et es hm hs hr G w0 μ φ w y z hM hy hz;have hA:aN E.P μ φ w id s et es:=by
     rcases hm with hm|hm
     ·exact hM.dJ id _ hm
     ·exact(hM.dJ id _ hm).1
    obtain⟨a1,a2,a3,a4,a5,a6,a7⟩:=hA;cases hz with
    |pv hz=>cases hz with
     |int KA=>
      cases hy with
      |vt hg=>grind [ar]
      | @os _ g hg=>refine⟨_,iG hu (by omega) hr.1 (by rw[a1];exact hr.2),?_⟩;rw[Addr.add_mid];have:=an.oe (P:=E.P) (μ:=μ) (φ:=φ) (id:=id) (i:=i.toNat) (off:=0) hg;simp_all
   split at h
   ·rename_i s et es hm;split at h
    ·rename_i hs;split at h
     ·rename_i hr;exact⟨_,_,fun m2 cS R' k'=>by have:=cS (false,id) (by simp);simp only at this;simp only[dq,hu,this,hm];grind,h,by simp,by simp[V.has],key s et es (.inl hm) hs hr⟩
     ·cases h
    ·cases h
   ·rename_i s et es hm;split at h
    ·rename_i hs;split at h
     ·rename_i hr;exact⟨_,_,fun m2 cS R' k'=>by have:=cS (false,id) (by simp);simp only at this;simp only[dq,hu,this,hm];grind,h,by simp,by simp[V.has],key s et es (.inr hm) hs hr⟩
     ·cases h
    ·cases h
   ·rename_i s et es hm;split at h
    ·rename_i hs;split at h
     ·rename_i hr;refine⟨_,_,fun m2 cS R' k'=>by have:=cS (false,id) (by simp);simp only at this;simp only[dq,hu,this,hm];grind,h,by simp,by simp[V.has],fun G w0 μ φ w y z hM hy hz=>?_⟩;have hA:bd E.P μ φ w id s et es:=hM.dJ id _ hm;obtain⟨a1,a2,a3,a4,a5,a6,a7⟩:=hA;cases hz with
      |pv hz=>cases hz with
       |int KA=>
        cases hy with
        |vt hg=>grind [ar]
        | @os _ g hg=>refine⟨_,iG hu (by omega) hr.1 (by rw[a1];exact hr.2),?_⟩;rw[Addr.add_mid];have:=an.oe (P:=E.P) (μ:=μ) (φ:=φ) (id:=id) (i:=i.toNat) (off:=0) hg;simp_all
     ·cases h
    ·cases h
   ·rename_i cs hm;split at h
    ·rename_i hs;refine⟨_,_,fun m2 cS R' k'=>by have:=cS (false,id) (by simp);simp_all[dq,T0],h,by simp,by simp[V.has],fun G w0 μ φ w y z hM hy hz=>?_⟩;obtain⟨g,c,T,hg,hh,pT,hv,xG,JS⟩:=hM.dJ id _ hm;cases hz with
     |pv hz=>cases hz with
      |int KA=>
       cases hy with
       |vt dn=>simp_all
       | @os _ g' dn=>refine⟨_,iG hu (by omega) hs.2.1 (by rw[JS];exact hs.2.2),?_⟩;rw[Addr.add_mid,hs.1];have:=an.op (P:=E.P) (μ:=μ) (φ:=φ) (id:=id) (off:=i.toNat) dn;simpa using this
    ·cases h
   ·cases h
  ·rename_i e id i0 off hu;split at h
   ·rename_i s0 et0 es hm;split at h
    ·rename_i ez;obtain⟨e0,he,h⟩:=M1.1 h;obtain⟨rs,PK,h⟩:=M1.1 h;split at h
     ·rename_i hr;refine⟨_,_,fun m2 cS R' k'=>by have:=cS (false,id) (by simp);simp_all[dq,T0,alr],h,by simp,by simp[V.has],fun G w0 μ φ w y z hM hy hz=>?_⟩;have hN:bd E.P μ φ w id s0 et0 es:=hM.dJ id _ hm;obtain⟨_,_,_,_,⟨⟨JL,hA⟩,_⟩,_⟩:=hN.row he PK;obtain⟨a1,a2,a3,a4,a5,a6,a7⟩:=hA;cases hz with
      |pv hz=>cases hz with
       |int KA=>
        cases hy with
        |LR hg=>have dn:((φ id).row i0 off).up.g=none:=hg;simp_all[ar]
        | @zU _ _ _ g hg=>have a1':((φ id).row i0 off).len=rs.length:=a1;refine⟨_,iG hu (by omega) hr.1 (by rw[a1'];exact hr.2),?_⟩;rw[Addr.add_mid];have:=an.DJ (P:=E.P) (μ:=μ) (φ:=φ) (id:=id) (i:=i0) (off:=off) (s:=aV E.P e) (j:=i.toNat) (off2:=0) hg a2;simpa using this
     ·cases h
    ·cases h
   ·cases h
  ·rename_i e id lo len hu;have key:∀(s:Nat)(et:TypeId)(es:List PV),(m id=some (.arr s et es)∨m id=some (.tC s et es))→s=aV E.P e∧0<s→ar i len→∀(G:Nat→Option (List PV))(w0:bE)(μ:Ro)(φ:Nat→aI)(w:World)(y z:Value),aA E.P G w0 μ φ m w→an E.P μ φ (.fS id lo len) y→an E.P μ φ (.pv (.int q i)) z→∃u,(Instr.indexAt t y z).run E.P w=.ok u w∧an E.P μ φ (.oe id (lo+i.toNat) 0) u:=by
    intro s et es hm hs hr G w0 μ φ w y z hM hy hz;have hA:aN E.P μ φ w id s et es:=by
     rcases hm with hm|hm
     ·exact hM.dJ id _ hm
     ·exact(hM.dJ id _ hm).1
    obtain⟨a1,a2,a3,a4,a5,a6,a7⟩:=hA;cases hz with
    |pv hz=>cases hz with
     |int KA=>
      cases hy with
      |tQ hg=>simp[ar]at hr;omega
      | @fS _ _ _ G1 g ad hg hl ha hc1 WH=>
       have ha:=ha.resolve_right fun hh=>by have:=hr.1;have:=hr.2;omega
       subst ha;refine⟨_,iG hu (by omega) hr.1 hr.2,?_⟩;rw[Addr.add_mid];have:=an.oe (P:=E.P) (μ:=μ) (φ:=φ) (id:=id) (i:=lo+i.toNat) (off:=0) hg;grind
   split at h
   ·rename_i s et es hm;split at h
    ·rename_i hs;split at h
     ·rename_i hr;exact⟨_,_,fun m2 cS R' k'=>by have:=cS (false,id) (by simp);simp only at this;simp only[dq,hu,this,hm];grind,h,by simp,by simp[V.has],key s et es (.inl hm) hs hr⟩
     ·cases h
    ·cases h
   ·rename_i s et es hm;split at h
    ·rename_i hs;split at h
     ·rename_i hr;exact⟨_,_,fun m2 cS R' k'=>by have:=cS (false,id) (by simp);simp only at this;simp only[dq,hu,this,hm];grind,h,by simp,by simp[V.has],key s et es (.inr hm) hs hr⟩
     ·cases h
    ·cases h
   ·cases h
  ·rename_i n e id off hu;split at h
   ·rename_i hr;refine⟨_,_,fun m2 _ R' k'=>by simp_all[dq,T0],h,by simp,by simp[V.has],fun G w0 μ φ w y z hM hy hz=>?_⟩;cases hz with
    |pv hz=>cases hz with
     |int KA=>
      cases hy with
      |op hg=>exact⟨_,mb hu (by omega) hr.1.1 hr.1.2,by rw[Addr.add_mid];exact .op hg⟩
   ·cases h
  ·rename_i n e cs hu;split at h
   ·rename_i hr;refine⟨_,_,fun m2 _ R' k'=>by simp_all[dq,T0],h,by simp,by simp,fun G w0 μ φ w y z hM hy hz=>?_⟩;cases hz with
    |pv hz=>cases hz with
     |int KA=>
      cases hy with
      |pv hy=>cases hy with
       |rp X h1 h2 h3=>exact⟨_,mb hu (by omega) hr.1.1 hr.1.2,by rw[Addr.add_mid];exact .pv (ao.LS _ (.rp X h1 h2 h3))⟩
   ·cases h
  ·rename_i n e id j off hu;split at h
   ·rename_i hr;split at h
    ·rename_i hb;refine⟨_,_,fun m2 cS R' k'=>by have:=cS (false,id) (by simp);simp_all[dq,T0],h,by simp,by simp[V.has],fun G w0 μ φ w y z hM hy hz=>?_⟩;have pT:(φ id).sz=aV E.P e:=by
      split at hb
      ·rename_i s et es hm;rw[acA hb];have hA:aN E.P μ φ w id s et es:=hM.dJ id _ hm;exact hA.2.1
      ·cases hb
     cases hz with
     |pv hz=>cases hz with
      |int KA=>
       cases hy with
       |oe hg=>refine⟨_,mb hu (by omega) hr.1.1 hr.1.2,?_⟩;have:=an.oe (P:=E.P) (μ:=μ) (φ:=φ) (id:=id) (i:=i.toNat+j) (off:=off) hg;grind [Addr.add_mid,id,aV,Nat.add_mul]
    ·rename_i hb;refine⟨_,_,fun m2 cS R' k'=>by have:=cS (false,id) (by simp);simp_all[dq,T0],h,by simp,by simp[V.has],fun G w0 μ φ w y z hM hy hz=>?_⟩;cases hz with
     |pv hz=>cases hz with
      |int KA=>
       cases hy with
       |oe hg=>exact⟨_,mb hu (by omega) hr.1.1 hr.1.2,by rw[Addr.add_mid,al9];exact .oe hg⟩
   ·cases h
  ·cases h
 ·cases h
theorem ru{cs:List V}(h:tM x=some cs):(∀id,cu id cs=true→x.has id=true)∧∀(P:Program)(μ:Ro)(φ:Nat→aI)y,an P μ φ x y→∃xs:Array Value,y=.agg xs∧cs.length=xs.size∧(∀(i:Nat)p x,cs[i]?=some p→xs[i]?=some x→an P μ φ p x)∧(∀(i:Nat)(x:Value),xs[i]?=some x→x.oneCell'=true):=by
 unfold tM at h;split at h
 ·simp only[By]at h;subst h;refine⟨fun id hid=>(by rw[Se]at hid;cases hid),fun P μ φ y hy=>?_⟩;cases hy with
  |pv hy=>cases hy with
   |agg h1 h2 h3=>refine⟨_,rfl,by simpa using h1,fun i p x hi hx=>?_,h3⟩;simp only[IS,alg]at hi;obtain⟨q,hq,rfl⟩:=hi;exact .pv (h2 i q x hq hx)
 ·simp only[By]at h;subst h;refine⟨fun id hid=>by simpa[V.has]using hid,fun P μ φ y hy=>?_⟩;cases hy with
  |agg h1 h2 h3=>grind
 ·cases h
variable{xs:Array Value}{off:Nat}
theorem DV(ha:aD P t=true):(part t xs off).run P w=.ok (.agg (xs.extract off (off+aV P t))) w:=by obtain⟨d,hu,_⟩:=HK ha;simp_all[part,E8,Gh]
theorem DW{d:TypeDesc}{y:Value}(hu:P.underlying t=some d)(ha:aD P t=false)(hy:xs[off]?=some y):(part t xs off).run P w=.ok y w:=by simp[part,E8 hu,ha,hy]
theorem NC{cs:List V}(h:Hv E t cs off k=some r):∃v,(∀(R':Type)(k':V→Option R'),Hv E t cs off k'=k' v)∧k v=some r∧(∀id,v.has id=true→cu id cs=true)∧∀(μ:Ro)(φ:Nat→aI)(w:World)(xs:Array Value),cs.length=xs.size→(∀(i:Nat)p x,cs[i]?=some p→xs[i]?=some x→an E.P μ φ p x)→(∀(i:Nat)(x:Value),xs[i]?=some x→x.oneCell'=true)→∃z,(part t xs off).run E.P w=.ok z w∧an E.P μ φ v z:=by
 unfold Hv at h;split at h
 ·rename_i ha;split at h
  ·rename_i hn;refine⟨_,fun R' k'=>by simp[Hv,ha,hn],h,fun id hid=>?_,fun μ φ w xs h1 h2 h3=>⟨_,DV ha,?_⟩⟩
   ·simp only[V.has]at hid;obtain⟨v,hv,hh⟩:=cN.1 hid;grind [bO,List.mem_of_mem_drop,List.mem_of_mem_take]
   ·refine .agg (by simp;omega) (fun i p x hi hx=>?_) (fun i x hx=>?_)
    ·grind
    grind [Array.getElem?_extract]
  ·cases h
 ·rename_i ha;have ha:aD E.P t=false:=by simpa using ha
  split at h
  ·rename_i v hv;obtain⟨u,h1,h2,h3,h4⟩:=NA h;obtain⟨d,hu⟩:=Ku h;refine⟨u,fun R' k'=>by simp[Hv,ha,hv,h1],h2,fun id hid=>bO (alf hv) (h4 id hid),fun μ φ w xs g1 g2 g3=>?_⟩;have bQ:off<cs.length:=(OF.1 hv).1;have hx:xs[off]?=some xs[off]:=ald (by omega);grind [DW]
  ·cases h
theorem Uy(h:Hw E s x j k=some r):∃v,(∀(R':Type)(k':V→Option R'),Hw E s x j k'=k' v)∧k v=some r∧(∀id,v.has id=true→x.has id=true)∧∀(μ:Ro)(φ:Nat→aI)(w:World)(y:Value),an E.P μ φ x y→∃z,(Instr.field s y j).run E.P w=.ok z w∧an E.P μ φ v z:=by
 unfold Hw at h;split at h
 ·rename_i o t cs ho hc;obtain⟨fs,f,hu,hf,rfl,rfl,hz⟩:=Gi ho;obtain⟨v,h1,h2,h3,h4⟩:=NC h;obtain⟨c1,c2⟩:=ru hc;refine⟨v,fun R' k'=>by simp[Hw,ho,hc,h1],h2,fun id hid=>c1 id (h3 id hid),fun μ φ w y hy=>?_⟩;obtain⟨xs,rfl,g1,g2,g3⟩:=c2 _ _ _ _ hy;obtain⟨z,hz,hv⟩:=h4 μ φ w xs g1 g2 g3;exact⟨z,by simp[Instr.field,run_underlying hu,hf,Go.asAgg,hz],hv⟩
 ·cases h
theorem wf_u8(b:UInt8):(Lit.int .u8 b.toNat).wf=true:=by rw[yt];have:=b.toNat_lt;simp[IntKind.min,IntKind.max,IntKind.signed,IntKind.bits];omega
theorem Uz{ix:V}(h:E1 E t x ix k=some r):∃v,(∀(R':Type)(k':V→Option R'),E1 E t x ix k'=k' v)∧k v=some r∧(∀id,v.has id=true→x.has id=true)∧∀(μ:Ro)(φ:Nat→aI)(w:World)(y z:Value),an E.P μ φ x y→an E.P μ φ ix z→∃u,(Instr.index t y z).run E.P w=.ok u w∧an E.P μ φ v u:=by
 unfold E1 at h;split at h
 ·rename_i q i;split at h
  ·rename_i s hu;obtain⟨b,hb,hk⟩:=M1.1 h;refine⟨_,fun R' k'=>by simp[E1,hu,hb],hk,by simp,fun μ φ w y z hy hz=>?_⟩;cases hz with
   |pv hz=>cases hz with
    |int KA=>
     cases hy with
     |pv hy=>cases hy with
      |str hl=>
       unfold Ng at hb;split at hb
       ·rename_i h0;have bQ:=(OF.1 hb).1;have je:(⟨s.toArray⟩:ByteArray)[i.toNat]?=some b:=by
         rw[getElem?_def];have:i.toNat<(⟨s.toArray⟩:ByteArray).size:=by simpa[ByteArray.size]using bQ
         rw[aoB this];have e:=(OF.1 hb).2;simp only[By];rw[←e];rfl
        refine⟨_,?_,.pv (.int (wf_u8 b))⟩;simp[Instr.index,asIntOf,run_underlying hu,h0,je]
       ·cases hb
  ·rename_i n et hu;split at h
   ·rename_i cs hc;split at h
    ·rename_i hn;obtain⟨v,h1,h2,h3,h4⟩:=NC h;obtain⟨c1,c2⟩:=ru hc;refine⟨v,fun R' k'=>by simp only[E1,hu,hc];rw[T0 hn,h1],h2,fun id hid=>c1 id (h3 id hid),fun μ φ w y z hy hz=>?_⟩;obtain⟨xs,rfl,g1,g2,g3⟩:=c2 _ _ _ _ hy;obtain⟨u,hu1,hv⟩:=h4 μ φ w xs g1 g2 g3;cases hz with
     |pv hz=>cases hz with
      |int KA=>refine⟨u,?_,hv⟩;have hr:=hn.1;unfold ar at hr;simp[Instr.index,asIntOf,run_underlying hu,hr.1,hr.2,jG (show aV E.P et≠0 by omega),hu1]
    ·cases h
   ·cases h
  ·cases h
 ·cases h
end
section
variable {R:Type} {E:Env}
theorem HL(s:Bytes):(⟨s.toArray⟩:ByteArray).size=s.length:=by rfl
theorem HM{n:Nat}(h:n≤maxLen):(Lit.int .i64 (n:Int)).wf=true:=by grind [yt,maxLen,IntKind.min,IntKind.max,IntKind.signed,IntKind.bits]
variable{P:Program}{μ:Ro}{sz:Nat}{es:List PV}
theorem adI{x:Value}(h:ao P μ (.rs sz es) x):∃a cap,x=.slice a es.length cap∧es.length≤maxLen:=by
 cases h with
 |lA=>simp
 | @M9 _ cap a h=>simp
 |rs X h1 h2=>grind
variable{φ:Nat→aI}{m:Mem}{w:World}
theorem aA.arr{G:Nat→Option (List PV)}{w0:bE}(hM:aA P G w0 μ φ m w){id s:Nat}{et:TypeId}(hm:m id=some (.arr s et es)∨m id=some (.tC s et es)):aN P μ φ w id s et es:=by
 rcases hm with hm|hm
 ·exact hM.dJ id _ hm
 ·exact(hM.dJ id _ hm).1
theorem aN.ry{id s:Nat}{et:TypeId}(h:aN P μ φ w id s et es):es.length≤(φ id).cap∧(φ id).cap≤maxLen:=by obtain⟨a1,a2,a3,a4,a5,a6,a7⟩:=h;grind
variable{x:V}{k:Nat→bD→Option R}{r:R}
theorem abn(h:JQ m x k=some r):∃n ft,(∀m2:Mem,(∀x∈ft,m2 x.2=m x.2)→∀(R':Type)(k':Nat→bD→Option R'),JQ m2 x k'=k' n ft)∧k n ft=some r∧(∀x∈ft,x.1=false)∧∀(P:Program)(G:Nat→Option (List PV))(w0:bE)(μ:Ro)(φ:Nat→aI)(w:World)(y:Value),aA P G w0 μ φ m w→an P μ φ x y→(∀id,x.has id=true→(m id).isSome=true)→n≤maxLen∧∃a cap,y=.slice a n cap:=by
 unfold JQ at h;split at h
 ·refine⟨_,_,fun m2 _ R' k'=>by rfl,h,by simp,fun P G w0 μ φ w y hM hy _=>?_⟩;cases hy with
  |pv hy=>obtain⟨a,cap,rfl,hl⟩:=adI hy;simp_all
 ·refine⟨_,_,fun m2 _ R' k'=>by rfl,h,by simp,fun P G w0 μ φ w y hM hy _=>?_⟩;cases hy;simp
 ·rename_i id lo len;have key:∀(s:Nat)(et:TypeId)(es:List PV),(m id=some (.arr s et es)∨m id=some (.tC s et es))→∀(P:Program)(G:Nat→Option (List PV))(w0:bE)(μ:Ro)(φ:Nat→aI)(w:World)(y:Value),aA P G w0 μ φ m w→an P μ φ (.fS id lo len) y→len≤maxLen∧∃a cap,y=.slice a len cap:=by
   intro s et es hm P G w0 μ φ w y hM hy;have hA:=hM.arr hm;have hl:=hA.ry;cases hy with
   |tQ=>simp
   |fS hg Xc ha=>grind
  split at h
  ·rename_i s et es hm;exact⟨_,_,fun m2 cS R' k'=>by have:=cS (false,id) (by simp);simp_all[JQ],h,by simp,fun P G w0 μ φ w y hM hy _=>key s et es (.inl hm) P G w0 μ φ w y hM hy⟩
  ·rename_i s et es hm;exact⟨_,_,fun m2 cS R' k'=>by have:=cS (false,id) (by simp);simp_all[JQ],h,by simp,fun P G w0 μ φ w y hM hy _=>key s et es (.inr hm) P G w0 μ φ w y hM hy⟩
  ·cases h
 ·rename_i id;split at h
  ·rename_i s et es hm;refine⟨_,_,fun m2 cS R' k'=>by have:=cS (false,id) (by simp);simp_all[JQ],h,by simp,fun P G w0 μ φ w y hM hy _=>?_⟩;have hA:=hM.arr (.inl hm);have hl:=hA.ry;obtain⟨a1,a2,a3,a4,a5,a6,a7⟩:=hA;refine⟨by omega,?_⟩;cases hy with
   |vt hg=>simp_all
   |os hg=>simp_all
  ·rename_i s et es hm;refine⟨_,_,fun m2 cS R' k'=>by have:=cS (false,id) (by simp);simp_all[JQ],h,by simp,fun P G w0 μ φ w y hM hy _=>?_⟩;have hA:=hM.arr (.inr hm);have hl:=hA.ry;obtain⟨a1,a2,a3,a4,a5,a6,a7⟩:=hA;refine⟨by omega,?_⟩;cases hy with
   |vt hg=>simp_all
   |os hg=>simp_all
  ·rename_i s et es hm;refine⟨_,_,fun m2 cS R' k'=>by have:=cS (false,id) (by simp);simp_all[JQ],h,by simp,fun P G w0 μ φ w y hM hy _=>?_⟩;have hA:bd P μ φ w id s et es:=hM.dJ id _ hm;obtain⟨a1,a2,a3,a4,a5,a6,a7⟩:=hA;have hl:es.length≤(φ id).cap:=by grind
   refine⟨by omega,?_⟩;cases hy with
   |vt hg=>simp_all
   |os hg=>simp_all
  ·rename_i cs hm;split at h
   ·rename_i hlen;refine⟨_,_,fun m2 cS R' k'=>by have:=cS (false,id) (by simp);simp_all[JQ],h,by simp,fun P G w0 μ φ w y hM hy _=>?_⟩;obtain⟨g,c,T,hg,hh,hs,hv,xG,JS⟩:=hM.dJ id _ hm;refine⟨hlen,?_⟩;cases hy with
    |vt dn=>simp_all
    |os dn=>simp_all
   ·cases h
  ·cases h
 ·cases h
theorem abo(h:Ut sz m x k=some r):∃n ft,(∀m2:Mem,(∀x∈ft,m2 x.2=m x.2)→∀(R':Type)(k':Nat→bD→Option R'),Ut sz m2 x k'=k' n ft)∧k n ft=some r∧(∀x∈ft,x.1=false)∧∀(P:Program)(G:Nat→Option (List PV))(w0:bE)(μ:Ro)(φ:Nat→aI)(w:World)(y:Value),aA P G w0 μ φ m w→an P μ φ x y→(∀id,x.has id=true→(m id).isSome=true)→n≤maxLen∧∃a cap,y=.slice a n cap:=by
 unfold Ut at h;split at h
 ·rename_i id i off;split at h
  ·rename_i s et es hm;obtain⟨e,he,h⟩:=M1.1 h;obtain⟨rs,hr,h⟩:=M1.1 h;refine⟨_,_,fun m2 cS R' k'=>by have:=cS (false,id) (by simp);simp_all[Ut],h,by simp,fun P G w0 μ φ w y hM hy _=>?_⟩;have hN:bd P μ φ w id s et es:=hM.dJ id _ hm;obtain⟨_,_,_,_,⟨⟨JL,hA⟩,_⟩,_⟩:=hN.row he hr;have hl:=hA.ry;have a1:=hA.1;refine⟨by omega,?_⟩;have hy:=hy.P8 (ν:=μ);cases hy with
   |vt hg=>have a7:=hA.2.2.2.2.2.2;simp_all
   |os hg=>simp_all
  ·cases h
 ·rename_i cC;obtain⟨n,ft,h1,h2,h3,h4⟩:=abn h;refine⟨n,ft,fun m2 cS R' k'=>?_,h2,h3,h4⟩;unfold Ut;simp_all
theorem abp(h:WV m x k=some r):∃n ft,(∀m2:Mem,(∀x∈ft,m2 x.2=m x.2)→∀(R':Type)(k':Nat→bD→Option R'),WV m2 x k'=k' n ft)∧k n ft=some r∧(∀x∈ft,x.1=false)∧n≤maxLen∧∀(P:Program)(G:Nat→Option (List PV))(w0:bE)(μ:Ro)(φ:Nat→aI)(w:World)(y:Value)(t kt et ty:TypeId),P.underlying t=some (.map kt et)→aA P G w0 μ φ m w→an P μ φ x y→(Builtin.len_ #[t] ty #[y]).run P w=.ok (.int .i64 n) w:=by
 unfold WV at h;split at h
 ·rename_i id;split at h
  ·rename_i kt es hm;split at h
   ·rename_i hl;refine⟨_,_,fun m2 cS R' k'=>by have:=cS (false,id) (by simp);simp_all[WV],h,by simp,hl,fun P G w0 μ φ w y t kt et ty hu hM hy=>?_⟩;cases hy with
    | @om _ g hg=>obtain⟨g',en,clock,kk,dn,hh,hs,_⟩:=hM.dJ id _ hm;simp_all[By,Builtin.len_,run_underlying,getObj,Sem.run,goInt]
   ·cases h
  ·cases h
 ·refine⟨_,_,fun m2 _ R' k'=>by rfl,h,by simp,by simp,fun P G w0 μ φ w y t kt et ty hu hM hy=>?_⟩;cases hy with
  |pv hy=>cases hy;simp[Builtin.len_,run_underlying hu,goInt]
 ·cases h
variable{t:TypeId}
theorem abq{k:V→bD→Option R}(h:Nk E t x m k=some r):∃v ft,(∀m2:Mem,(∀x∈ft,m2 x.2=m x.2)→∀(R':Type)(k':V→bD→Option R'),Nk E t x m2 k'=k' v ft)∧k v ft=some r∧(∀x∈ft,x.1=false)∧(∀id,v.has id=false)∧∀(G:Nat→Option (List PV))(w0:bE)(μ:Ro)(φ:Nat→aI)(w:World)(y:Value)(ty:TypeId),aA E.P G w0 μ φ m w→an E.P μ φ x y→(∀id,x.has id=true→(m id).isSome=true)→∃z,(Builtin.len_ #[t] ty #[y]).run E.P w=.ok z w∧an E.P μ φ v z:=by
 unfold Nk at h;split at h
 ·rename_i n e hu;split at h
  ·rename_i hn;exact⟨_,_,fun m2 _ R' k'=>by simp[Nk,hu,hn],h,by simp,by simp,fun G w0 μ φ w y ty hM hy _=>⟨_,by simp[Builtin.len_,run_underlying hu,goInt],.pv (.int (HM hn))⟩⟩
  ·cases h
 ·rename_i hu;split at h
  ·refine⟨_,_,fun m2 _ R' k'=>by simp[Nk,hu],h,by simp,by simp,fun G w0 μ φ w y ty hM hy _=>?_⟩;cases hy with
   |pv hy=>cases hy with
    | @str s hl=>exact⟨_,by simp[Builtin.len_,run_underlying hu,goInt,HL],.pv (.int (HM hl))⟩
  ·cases h
 ·rename_i e hu;obtain⟨n,ft,h1,h2,h3,h4⟩:=abo h;refine⟨_,ft,fun m2 cS R' k'=>by simp only[Nk,hu];rw[h1 m2 cS],h2,h3,by simp,fun G w0 μ φ w y ty hM hy hq=>?_⟩;obtain⟨hl,a,cap,rfl⟩:=h4 _ _ _ _ _ _ _ hM hy hq;exact⟨_,by simp[Builtin.len_,run_underlying hu,goInt],.pv (.int (HM hl))⟩
 ·rename_i kt et hu;obtain⟨n,ft,h1,h2,h3,hl,h4⟩:=abp h;refine⟨_,ft,fun m2 cS R' k'=>by simp only[Nk,hu];rw[h1 m2 cS],h2,h3,by simp,fun G w0 μ φ w y ty hM hy hq=>?_⟩;exact⟨_,h4 _ _ _ _ _ _ _ _ _ _ _ hu hM hy,.pv (.int (HM hl))⟩
 ·cases h
theorem HN{d i:Int}{v:Option V}(h:jU d v=some i):(v=none∧i=d)∨∃q,v=some (.pv (.int q i)):=by unfold jU at h;grind
theorem run_sliceBound{P:Program}{w:World}{q:IntKind}{i:Int}{y:Nat}{code:BoundsCode}(h0:0≤i)(h1:i≤(y:Int)):(Instr.sliceBound (.int q i) y code).run P w=.ok i.toNat w:=by simp[Instr.sliceBound,asIntOf,h0,h1]
variable{HO sI:Option Value}
theorem mc{isS:Bool}{len cap:Nat}{l h:Int}{lo hi:Option V}(hl:jU 0 lo=some l)(hh:jU len hi=some h)(rl:∀v,lo=some v→∃y,HO=some y∧an P μ φ v y)(rl0:lo=none→HO=none)(rh:∀v,hi=some v→∃y,sI=some y∧an P μ φ v y)(rh0:hi=none→sI=none)(b0:0≤l)(b1:l≤h)(b2:h≤(len:Int))(b3:len≤cap):(Instr.sliceBounds isS len cap HO sI none).run P w=.ok (l.toNat,h.toNat,cap) w:=by
 have e1:∃y,(sI=none∧h=len)∨(sI=some y∧∃q,y=.int q h):=by
  rcases HN hh with⟨rfl,rfl⟩|⟨q,rfl⟩
  ·simp_all
  ·obtain⟨y,rfl,hy⟩:=rh _ rfl;cases hy with
   |pv hy=>cases hy with
    |int hw=>simp
 have e2:∃y,(HO=none∧l=0)∨(HO=some y∧∃q,y=.int q l):=by
  rcases HN hl with⟨rfl,rfl⟩|⟨q,rfl⟩
  ·simp_all
  ·obtain⟨y,rfl,hy⟩:=rl _ rfl;cases hy with
   |pv hy=>cases hy with
    |int hw=>simp
 clear rl rl0 rh rh0 hl hh;obtain⟨y,⟨rfl,rfl⟩|⟨rfl,q,rfl⟩⟩:=e1<;>obtain⟨z,⟨rfl,rfl⟩|⟨rfl,q',rfl⟩⟩:=e2
 ·rfl
 ·simp_all[run_sliceBound,Instr.sliceBounds]
 ·have:= @run_sliceBound P w q h cap (if isS then BoundsCode.sliceAcap else .sliceAlen) (by omega) (by omega);simp[Instr.sliceBounds,this]
 ·have h1:= @run_sliceBound P w q h cap (if isS then BoundsCode.sliceAcap else .sliceAlen) (by omega) (by omega);have h2:= @run_sliceBound P w q' l h.toNat BoundsCode.sliceB b0 (by omega);simp[Instr.sliceBounds,h1,h2]
theorem str_slice{s:Bytes}{l h:Nat}(hl:l≤h)(hh:h≤s.length):(⟨s.toArray⟩:ByteArray).extract l h=⟨((s.take h).drop l).toArray⟩:=by apply ByteArray.ext;simp[ByteArray.data_extract,amU,List.extract_eq_take_drop,List.drop_take]
theorem Xd{x:Value}{l h:Nat}(hx:ao P μ (.rs sz es) x)(hl:l≤h)(hh:h≤es.length):∃a cap,x=.slice a es.length cap∧es.length≤cap∧ao P μ (.rs sz ((es.take h).drop l)) (.slice (if cap=l then a else a.map (·.add (l*sz))) (h-l) (cap-l)):=by
 have hlen:((es.take h).drop l).length=h-l:=by simp;omega
 cases hx with
 |lA=>
  simp at hh;subst hh;have:l=0:=by omega
  subst this;exact⟨none,0,rfl,by simp,by simpa using ao.lA⟩
 | @M9 _ cap a hc=>
  simp at hh;subst hh;have:l=0:=by omega
  subst this;refine⟨some a,cap,rfl,by simp,?_⟩;have:(if cap=0 then some a else(some a).map (·.add (0*sz)))=some a:=by split<;>simp[Addr.add]
  rw[this];exact .M9 hc
 | @rs _ _ b o cap X h1 h2 h3 h4 h5 h6=>
  refine⟨_,cap,rfl,h1,?_⟩;have fo:∀(i:Nat)e,((es.take h).drop l)[i]?=some e→es[l+i]?=some e:=fun i e hi=>(iF (xF hi)).2;by_cases hz:h=l
  ·have:(es.take h).drop l=[]:=alv (by omega);rw[this];have hz':h-l=0:=by omega
   rw[hz'];split
   ·exact .M9 (by omega)
   ·simp only[No];exact .M9 (by omega)
  ·have hc:cap≠l:=by omega
   rw[acB hc];simp only[No,Addr.add_mid];have:=ao.rs (P:=P) (μ:=μ) (sz:=sz) (es:=(es.take h).drop l) (b:=b) (o:=o+l*sz) (cap:=cap-l) (fun i j=>X (l+i) j) (by omega) (by omega) (fun i e hi=>h3 _ e (fo i e hi)) (fun i e j p hi hj=>by grind) (fun i e j p hi hj=>h5 _ e j p (fo i e hi) hj) (fun i e j p hi hj=>h6 _ e j p (fo i e hi) hj);simp_all
theorem yu{e:TypeId}{a:Option Addr}{len cap l h:Nat}(hu:P.underlying t=some (.slice e))(hz:aV P e≠0)(hb:(Instr.sliceBounds true len cap HO sI none).run P w=.ok (l,h,cap) w):(Instr.sliceAt t (.slice a len cap) HO sI none).run P w=.ok (.slice (if cap=l then a else a.map (·.add (l*aV P e))) (h-l) (cap-l)) w:=by simp_all[Instr.sliceAt,Instr.slice,run_underlying,jG]
theorem UA{lo hi mx:Option V}{k:V→bD→Option R}(h:yn E t x lo hi mx m k=some r):∃v ft,(∀m2:Mem,(∀x∈ft,m2 x.2=m x.2)→∀(R':Type)(k':V→bD→Option R'),yn E t x lo hi mx m2 k'=k' v ft)∧k v ft=some r∧(∀x∈ft,x.1=false)∧(∀id,v.has id=true→x.has id=true)∧∀(G:Nat→Option (List PV))(w0:bE)(μ:Ro)(φ:Nat→aI)(w:World)(y:Value)(HO sI mx':Option Value),aA E.P G w0 μ φ m w→an E.P μ φ x y→(∀v,lo=some v→∃y,HO=some y∧an E.P μ φ v y)→(lo=none→HO=none)→(∀v,hi=some v→∃y,sI=some y∧an E.P μ φ v y)→(hi=none→sI=none)→(∀v,mx=some v→∃y,mx'=some y∧an E.P μ φ v y)→(mx=none→mx'=none)→∃z,(Instr.sliceAt t y HO sI mx').run E.P w=.ok z w∧an E.P μ φ v z:=by
 unfold yn at h;split at h
 ·rename_i mv;split at h
  ·rename_i e id hu;split at h
   ·rename_i s et es hm;split at h
    ·rename_i qh hh qc c;split at h
     ·rename_i hb;refine⟨_,_,fun m2 cS R' k'=>by have:=cS (false,id) (by simp);simp_all[yn,T0],h,by simp,by simp[V.has],fun G w0 μ φ w y HO sI mx' hM hy r1 r2 r3 r4 r5 r6=>?_⟩;have hA:=hM.arr (.inl hm);have hle:=hA.ry;obtain⟨a1,a2,a3,a4,a5,a6,a7⟩:=hA;obtain⟨ym,rfl,hym⟩:=r5 _ rfl;have hlo:=r2 rfl;subst hlo;cases hym with
      |pv hym=>cases hym with
       |int hwc=>
        have hB:∀len cap:Nat,len=es.length→c≤(cap:Int)→(Instr.sliceBounds true len cap none sI (some (.int qc c))).run E.P w=.ok (0,hh.toNat,c.toNat) w:=by
         intro len cap hlen sU;have h1:= @run_sliceBound E.P w qc c cap BoundsCode.slice3Acap (by omega) sU;obtain⟨yh,rfl,hyh⟩:=r3 _ rfl;cases hyh with
         |pv hyh=>cases hyh with
          |int hwh=>have h2:= @run_sliceBound E.P w qh hh c.toNat BoundsCode.slice3B (by omega) (by omega);simp[Instr.sliceBounds,h1,h2]
        have hS:∀(a:Option Addr)(len cap:Nat),len=es.length→c≤(cap:Int)→(Instr.sliceAt t (.slice a len cap) none sI (some (.int qc c))).run E.P w=.ok (.slice (if c.toNat=0 then a else a.map (·.add (0*aV E.P e))) hh.toNat c.toNat) w:=by intro a len cap hlen sU;simp[Instr.sliceAt,Instr.slice,run_underlying hu,hB len cap hlen sU,jG (show aV E.P e≠0 by omega)]
        cases hy with
        |vt hg=>
         rw[hg]at a7;have h0:es.length=0:=by omega
         refine⟨_,hS none 0 0 h0.symm (by omega),?_⟩;have e1:hh.toNat=0:=by omega
         have e2:c.toNat=0:=by omega
         rw[e1,e2];exact .tQ hg
        | @os _ g hg=>
         refine⟨_,hS _ _ _ a1 (by omega),?_⟩;have:(if c.toNat=0 then some (⟨g,0,none⟩:Addr)else(some ⟨g,0,none⟩:Option Addr).map (·.add (0*aV E.P e)))=some ⟨g,0*(φ id).sz,none⟩:=by split<;>simp[Addr.add]
         rw[this];exact .fS hg (by omega) (.inl rfl) (by omega) (by omega)
     ·cases h
    ·cases h
   ·cases h
  ·cases h
 ·split at h
  ·rename_i s hu;split at h
   ·rename_i l hh hl hhh;split at h
    ·rename_i hb;refine⟨_,_,fun m2 _ R' k'=>by simp_all[yn,T0],h,by simp,by simp,fun G w0 μ φ w y HO sI mx' hM hy r1 r2 r3 r4 _ r6=>?_⟩;have hmx:=r6 rfl;subst hmx;cases hy with
     |pv hy=>cases hy with
      |str hlen=>have hB:=mc (P:=E.P) (w:=w) (isS:=false) (cap:=s.length) hl hhh r1 r2 r3 r4 hb.1 hb.2.1 hb.2.2 (alz _);refine⟨_,?_,.pv (.str (s:=(s.take hh.toNat).drop l.toNat) (by simp;omega))⟩;simp only[Instr.sliceAt,Instr.slice,Sem.run_bind,run_underlying hu,Result.andThen_ok,HL,hB];simp only[am6,IN,Wi,Sem.run_bind,Sem.run_pure,Result.andThen_ok,hB];rw[str_slice (by omega) (by omega)]
    ·cases h
   ·cases h
  ·rename_i e sz es hu;split at h
   ·rename_i l hh hl hhh;split at h
    ·rename_i hb;refine⟨_,_,fun m2 _ R' k'=>by simp_all[yn,T0],h,by simp,by simp,fun G w0 μ φ w y HO sI mx' hM hy r1 r2 r3 r4 _ r6=>?_⟩;have hmx:=r6 rfl;subst hmx;cases hy with
     |pv hy=>obtain⟨a,cap,rfl,hc,hr⟩:=Xd (l:=l.toNat) (h:=hh.toNat) hy (by omega) (by omega);have hB:=mc (P:=E.P) (w:=w) (isS:=true) (cap:=cap) hl hhh r1 r2 r3 r4 hb.1 hb.2.1 hb.2.2.1 hc;exact⟨_,yu hu hb.2.2.2.2 hB,by rw[←hb.2.2.2.1];exact .pv hr⟩
    ·cases h
   ·cases h
  ·rename_i e id hu;have key:∀(s:Nat)(et:TypeId)(es:List PV)(l hh:Int),(m id=some (.arr s et es)∨m id=some (.tC s et es))→jU 0 lo=some l→jU es.length hi=some hh→(0≤l∧l≤hh∧hh≤(es.length:Int)∧s=aV E.P e)→∀(G:Nat→Option (List PV))(w0:bE)(μ:Ro)(φ:Nat→aI)(w:World)(y:Value)(HO sI:Option Value),aA E.P G w0 μ φ m w→an E.P μ φ (.os id) y→(∀v,lo=some v→∃y,HO=some y∧an E.P μ φ v y)→(lo=none→HO=none)→(∀v,hi=some v→∃y,sI=some y∧an E.P μ φ v y)→(hi=none→sI=none)→∃z,(Instr.sliceAt t y HO sI none).run E.P w=.ok z w∧an E.P μ φ (.fS id l.toNat (hh.toNat-l.toNat)) z:=by
    intro s et es l hh hm hl hhh hb G w0 μ φ w y HO sI hM hy r1 r2 r3 r4;have hA:=hM.arr hm;have hle:=hA.ry;obtain⟨a1,a2,a3,a4,a5,a6,a7⟩:=hA;cases hy with
    |vt hg=>
     rw[hg]at a7;have h0:es.length=0:=by omega
     have hB:=mc (P:=E.P) (w:=w) (isS:=true) (cap:=0) hl hhh r1 r2 r3 r4 hb.1 hb.2.1 hb.2.2.1 (by omega);rw[h0]at hB;refine⟨_,yu hu (by omega) hB,?_⟩;have e1:l.toNat=0:=by omega
     have e2:hh.toNat=0:=by omega
     rw[e1,e2];exact .tQ hg
    | @os _ g hg=>
     have hB:=mc (P:=E.P) (w:=w) (isS:=true) (cap:=(φ id).cap) hl hhh r1 r2 r3 r4 hb.1 hb.2.1 hb.2.2.1 (by omega);rw[←a1]at hB;refine⟨_,yu hu (by omega) hB,?_⟩;by_cases hc:(φ id).cap=l.toNat
     ·rw[T0 hc];by_cases h0:l.toNat=0
      ·rw[h0];exact .fS hg (by omega) (.inl (by simp)) (by omega) (by omega)
      ·exact .fS hg (by omega) (.inr ⟨hc,by omega⟩) (by omega) (by omega)
     ·rw[acB hc];simp only[No,Addr.add_mid,amq];refine .fS hg (by omega) (.inl ?_) (by omega) (by omega);rw[a2,hb.2.2.2]
   split at h
   ·rename_i s et es hm;split at h
    ·rename_i l hh hl hhh;split at h
     ·rename_i hb;exact⟨_,_,fun m2 cS R' k'=>by have:=cS (false,id) (by simp);simp_all[yn,T0],h,by simp,by simp[V.has],fun G w0 μ φ w y HO sI mx' hM hy r1 r2 r3 r4 _ r6=>by rw[r6 rfl];exact key s et es l hh (.inl hm) hl hhh hb G w0 μ φ w y HO sI hM hy r1 r2 r3 r4⟩
     ·cases h
    ·cases h
   ·rename_i s et es hm;split at h
    ·rename_i l hh hl hhh;split at h
     ·rename_i hb;exact⟨_,_,fun m2 cS R' k'=>by have:=cS (false,id) (by simp);simp_all[yn,T0],h,by simp,by simp[V.has],fun G w0 μ φ w y HO sI mx' hM hy r1 r2 r3 r4 _ r6=>by rw[r6 rfl];exact key s et es l hh (.inr hm) hl hhh hb G w0 μ φ w y HO sI hM hy r1 r2 r3 r4⟩
     ·cases h
    ·cases h
   ·cases h
  ·cases h
end
end Go.Ab
