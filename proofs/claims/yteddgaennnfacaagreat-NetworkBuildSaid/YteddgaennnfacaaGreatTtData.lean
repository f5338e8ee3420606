import Derived.Test.YteddgaennnfacaaGreatAbTrod
namespace Go.Ab.Tt
abbrev oz(n:Int):Prop:=(Lit.int .i64 n).wf=true
structure Stop where
 id:Bytes
 zM:Int
 free:Bool
 change:Int
 deriving DecidableEq
def Stop.pv(x:Stop):PV:=.agg [.str x.id,.int .i64 x.zM,.bool x.free,.int .i64 x.change]
structure Stop.kH(M:Nat)(x:Stop):Prop where
 id:x.id.length≤M
 zM:oz x.zM
 change:oz x.change
abbrev Stop.Ok(x:Stop):Prop:=x.kH maxLen
structure az where
 id:Bytes
 mode:Int
 akI:Bool
 deriving DecidableEq
def az.pv(x:az):PV:=.agg [.str x.id,.int .i64 x.mode,.bool x.akI]
structure az.kH(M:Nat)(x:az):Prop where
 id:x.id.length≤M
 mode:oz x.mode
abbrev az.Ok(x:az):Prop:=x.kH maxLen
structure oX where
 id:Bytes
 w0:Bool
 w1:Bool
 w2:Bool
 w3:Bool
 w4:Bool
 w5:Bool
 w6:Bool
 zN:Int
 zO:Int
 deriving DecidableEq
def oX.pv(x:oX):PV:=.agg [.str x.id,.bool x.w0,.bool x.w1,.bool x.w2,.bool x.w3,.bool x.w4,.bool x.w5,.bool x.w6,.int .i64 x.zN,.int .i64 x.zO]
structure oX.kH(M:Nat)(x:oX):Prop where
 id:x.id.length≤M
 zN:oz x.zN
 zO:oz x.zO
abbrev oX.Ok(x:oX):Prop:=x.kH maxLen
structure sN where
 vU:Int
 day:Int
 added:Bool
 deriving DecidableEq
def sN.pv(x:sN):PV:=.agg [.int .i64 x.vU,.int .i64 x.day,.bool x.added]
structure sN.kH(M:Nat)(x:sN):Prop where
 vU:oz x.vU
 day:oz x.day
abbrev sN.Ok(x:sN):Prop:=x.kH maxLen
structure aF where
 stop:Int
 arr:Int
 dep:Int
 Py:Bool
 JC:Bool
 deriving DecidableEq
def aF.pv(x:aF):PV:=.agg [.int .i64 x.stop,.int .i64 x.arr,.int .i64 x.dep,.bool x.Py,.bool x.JC]
structure aF.kH(M:Nat)(x:aF):Prop where
 stop:oz x.stop
 arr:oz x.arr
 dep:oz x.dep
abbrev aF.Ok(x:aF):Prop:=x.kH maxLen
structure bn where
 id:Bytes
 bV:Int
 vU:Int
 free:Bool
 calls:List aF
 deriving DecidableEq
def bn.pv(x:bn):PV:=.agg [.str x.id,.int .i64 x.bV,.int .i64 x.vU,.bool x.free,.rs 5 (x.calls.map aF.pv)]
structure bn.kH(M:Nat)(x:bn):Prop where
 id:x.id.length≤M
 bV:oz x.bV
 vU:oz x.vU
 calls:x.calls.length≤M∧∀y∈x.calls,y.kH M
abbrev bn.Ok(x:bn):Prop:=x.kH maxLen
structure bg where
 bp:Int
 t0:Int
 t1:Int
 every:Int
 deriving DecidableEq
def bg.pv(x:bg):PV:=.agg [.int .i64 x.bp,.int .i64 x.t0,.int .i64 x.t1,.int .i64 x.every]
structure bg.kH(M:Nat)(x:bg):Prop where
 bp:oz x.bp
 t0:oz x.t0
 t1:oz x.t1
 every:oz x.every
abbrev bg.Ok(x:bg):Prop:=x.kH maxLen
structure gw where
 a:Int
 b:Int
 deriving DecidableEq
def gw.pv(x:gw):PV:=.agg [.int .i64 x.a,.int .i64 x.b]
structure gw.kH(M:Nat)(x:gw):Prop where
 a:oz x.a
 b:oz x.b
abbrev gw.Ok(x:gw):Prop:=x.kH maxLen
structure gn where
 a:Int
 b:Int
 stop:Int
 deriving DecidableEq
def gn.pv(x:gn):PV:=.agg [.int .i64 x.a,.int .i64 x.b,.int .i64 x.stop]
structure gn.kH(M:Nat)(x:gn):Prop where
 a:oz x.a
 b:oz x.b
 stop:oz x.stop
abbrev gn.Ok(x:gn):Prop:=x.kH maxLen
structure Path where
 a:Int
 b:Int
 jA:Int
 free:Bool
 deriving DecidableEq
def Path.pv(x:Path):PV:=.agg [.int .i64 x.a,.int .i64 x.b,.int .i64 x.jA,.bool x.free]
structure Path.kH(M:Nat)(x:Path):Prop where
 a:oz x.a
 b:oz x.b
 jA:oz x.jA
abbrev Path.Ok(x:Path):Prop:=x.kH maxLen
structure ba where
 id:Bytes
 GI:Int
 GJ:Int
 GK:Int
 jA:Int
 GL:Int
 deriving DecidableEq
def ba.pv(x:ba):PV:=.agg [.str x.id,.int .i64 x.GI,.int .i64 x.GJ,.int .i64 x.GK,.int .i64 x.jA,.int .i64 x.GL]
structure ba.kH(M:Nat)(x:ba):Prop where
 id:x.id.length≤M
 GI:oz x.GI
 GJ:oz x.GJ
 GK:oz x.GK
 jA:oz x.jA
 GL:oz x.GL
abbrev ba.Ok(x:ba):Prop:=x.kH maxLen
structure aj where
 stops:List Stop
 ai:List az
 dL:List oX
 lI:List sN
 ae:List bn
 aU:List bg
 cm:List gw
 bL:List gn
 paths:List Path
 aB:List ba
 aZ:Int
 within:Int
 cap:Int
def aj.pv(x:aj):PV:=.agg [.rs 4 (x.stops.map Stop.pv),.rs 3 (x.ai.map az.pv),.rs 10 (x.dL.map oX.pv),.rs 3 (x.lI.map sN.pv),.rs 5 (x.ae.map bn.pv),.rs 4 (x.aU.map bg.pv),.rs 2 (x.cm.map gw.pv),.rs 3 (x.bL.map gn.pv),.rs 4 (x.paths.map Path.pv),.rs 6 (x.aB.map ba.pv),.int .i64 x.aZ,.int .i64 x.within,.int .i64 x.cap]
structure aj.kH(M:Nat)(x:aj):Prop where
 stops:x.stops.length≤M∧∀y∈x.stops,y.kH M
 ai:x.ai.length≤M∧∀y∈x.ai,y.kH M
 dL:x.dL.length≤M∧∀y∈x.dL,y.kH M
 lI:x.lI.length≤M∧∀y∈x.lI,y.kH M
 ae:x.ae.length≤M∧∀y∈x.ae,y.kH M
 aU:x.aU.length≤M∧∀y∈x.aU,y.kH M
 cm:x.cm.length≤M∧∀y∈x.cm,y.kH M
 bL:x.bL.length≤M∧∀y∈x.bL,y.kH M
 paths:x.paths.length≤M∧∀y∈x.paths,y.kH M
 aB:x.aB.length≤M∧∀y∈x.aB,y.kH M
 aZ:oz x.aZ
 within:oz x.within
 cap:oz x.cap
abbrev aj.Ok(x:aj):Prop:=x.kH maxLen
section
variable {P:Program} {M d:Nat} {t:TypeId} {a:List PV}
theorem eI{fs:Array Field}(hu:P.underlying t=some (.struct fs))(h:fX M P (d+1) t a):AA P (fX M P d) fs.toList a:=by unfold fX at h;rw[hu]at h;exact h
theorem Wp{n:Nat}{e:TypeId}(hu:P.underlying t=some (.array n e))(h:fX M P (d+1) t a):Yj (fX M P d e) (aV P e) n a:=by unfold fX at h;rw[hu]at h;exact h
theorem EO(hu:P.underlying t=some .string)(h:fX M P (d+1) t a):∃s:Bytes,a=[.str s]∧s.length≤M:=by unfold fX at h;rw[hu]at h;exact h
theorem cr{k:IntKind}(hu:P.underlying t=some (.int k))(h:fX M P (d+1) t a):∃n,a=[.int k n]∧(Lit.int k n).wf=true:=by unfold fX at h;rw[hu]at h;exact h
theorem gK(hu:P.underlying t=some .bool)(h:fX M P (d+1) t a):∃b,a=[.bool b]:=by unfold fX at h;rw[hu]at h;exact h
theorem GX{B:Type}{f:B→PV}{Q:B→Prop}:∀{es:List PV},(∀x∈es,∃s,x=f s∧Q s)→∃l:List B,es=l.map f∧∀s∈l,Q s
 |[],_=>⟨[],rfl,by simp⟩
 |x::es,h=>by
  obtain⟨s,hs,hq⟩:=h x (by simp);obtain⟨l,hl,hql⟩:=GX (es:=es) fun y hy=>h y (by simp[hy]);exact⟨s::l,by simp[hs,hl],fun y hy=>by
   rcases alq.1 hy with rfl|hy
   ·exact hq
   ·exact hql y hy⟩
theorem kG{e:TypeId}{B:Type}{f:B→PV}{Q:B→Prop}(hu:P.underlying t=some (.slice e))(Oc:aD P e=true){c:Nat}(hc:aV P e=c)(hB:∀qs,fX M P d e qs→∃s,GB true qs=f s∧Q s)(h:fX M P (d+1) t a):∃l:List B,a=[.rs c (l.map f)]∧l.length≤M∧∀s∈l,Q s:=by
 unfold fX at h;rw[hu]at h;obtain⟨es,rfl,hl,he⟩:=h;obtain⟨l,rfl,hq⟩:=GX (f:=f) (Q:=Q) (es:=es) fun x hx=>by obtain⟨qs,rfl,_,hs⟩:=he x hx;rw[Oc];exact hB qs hs
 exact⟨l,by rw[hc],by simpa using hl,hq⟩
end
end Go.Ab.Tt
