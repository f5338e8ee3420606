import Derived.Test.YtmbihgjlollbeaaGreatAbTrod
namespace Go.Ab.Tt
abbrev jN(n:Int):Prop:=(Lit.int .i64 n).wf=true
structure Stop where
 id:Bytes
 ug:Int
 free:Bool
 change:Int
 deriving DecidableEq
def Stop.pv(x:Stop):PV:=.agg [.str x.id,.int .i64 x.ug,.bool x.free,.int .i64 x.change]
structure Stop.fB(M:Nat)(x:Stop):Prop where
 id:x.id.length≤M
 ug:jN x.ug
 change:jN x.change
abbrev Stop.Ok(x:Stop):Prop:=x.fB maxLen
structure ax where
 id:Bytes
 mode:Int
 rI:Bool
 deriving DecidableEq
def ax.pv(x:ax):PV:=.agg [.str x.id,.int .i64 x.mode,.bool x.rI]
structure ax.fB(M:Nat)(x:ax):Prop where
 id:x.id.length≤M
 mode:jN x.mode
abbrev ax.Ok(x:ax):Prop:=x.fB maxLen
structure mL where
 id:Bytes
 w0:Bool
 w1:Bool
 w2:Bool
 w3:Bool
 w4:Bool
 w5:Bool
 w6:Bool
 Ct:Int
 Cu:Int
 deriving DecidableEq
def mL.pv(x:mL):PV:=.agg [.str x.id,.bool x.w0,.bool x.w1,.bool x.w2,.bool x.w3,.bool x.w4,.bool x.w5,.bool x.w6,.int .i64 x.Ct,.int .i64 x.Cu]
structure mL.fB(M:Nat)(x:mL):Prop where
 id:x.id.length≤M
 Ct:jN x.Ct
 Cu:jN x.Cu
abbrev mL.Ok(x:mL):Prop:=x.fB maxLen
structure pF where
 wI:Int
 day:Int
 added:Bool
 deriving DecidableEq
def pF.pv(x:pF):PV:=.agg [.int .i64 x.wI,.int .i64 x.day,.bool x.added]
structure pF.fB(M:Nat)(x:pF):Prop where
 wI:jN x.wI
 day:jN x.day
abbrev pF.Ok(x:pF):Prop:=x.fB maxLen
structure aY where
 stop:Int
 arr:Int
 dep:Int
 ca:Bool
 bC:Bool
 deriving DecidableEq
def aY.pv(x:aY):PV:=.agg [.int .i64 x.stop,.int .i64 x.arr,.int .i64 x.dep,.bool x.ca,.bool x.bC]
structure aY.fB(M:Nat)(x:aY):Prop where
 stop:jN x.stop
 arr:jN x.arr
 dep:jN x.dep
abbrev aY.Ok(x:aY):Prop:=x.fB maxLen
structure br where
 id:Bytes
 dG:Int
 wI:Int
 free:Bool
 calls:List aY
 deriving DecidableEq
def br.pv(x:br):PV:=.agg [.str x.id,.int .i64 x.dG,.int .i64 x.wI,.bool x.free,.rs 5 (x.calls.map aY.pv)]
structure br.fB(M:Nat)(x:br):Prop where
 id:x.id.length≤M
 dG:jN x.dG
 wI:jN x.wI
 calls:x.calls.length≤M∧∀y∈x.calls,y.fB M
abbrev br.Ok(x:br):Prop:=x.fB maxLen
structure bl where
 bD:Int
 t0:Int
 t1:Int
 every:Int
 deriving DecidableEq
def bl.pv(x:bl):PV:=.agg [.int .i64 x.bD,.int .i64 x.t0,.int .i64 x.t1,.int .i64 x.every]
structure bl.fB(M:Nat)(x:bl):Prop where
 bD:jN x.bD
 t0:jN x.t0
 t1:jN x.t1
 every:jN x.every
abbrev bl.Ok(x:bl):Prop:=x.fB maxLen
structure iJ where
 a:Int
 b:Int
 deriving DecidableEq
def iJ.pv(x:iJ):PV:=.agg [.int .i64 x.a,.int .i64 x.b]
structure iJ.fB(M:Nat)(x:iJ):Prop where
 a:jN x.a
 b:jN x.b
abbrev iJ.Ok(x:iJ):Prop:=x.fB maxLen
structure gD where
 a:Int
 b:Int
 stop:Int
 deriving DecidableEq
def gD.pv(x:gD):PV:=.agg [.int .i64 x.a,.int .i64 x.b,.int .i64 x.stop]
structure gD.fB(M:Nat)(x:gD):Prop where
 a:jN x.a
 b:jN x.b
 stop:jN x.stop
abbrev gD.Ok(x:gD):Prop:=x.fB maxLen
structure Path where
 a:Int
 b:Int
 fq:Int
 free:Bool
 deriving DecidableEq
def Path.pv(x:Path):PV:=.agg [.int .i64 x.a,.int .i64 x.b,.int .i64 x.fq,.bool x.free]
structure Path.fB(M:Nat)(x:Path):Prop where
 a:jN x.a
 b:jN x.b
 fq:jN x.fq
abbrev Path.Ok(x:Path):Prop:=x.fB maxLen
structure aM where
 id:Bytes
 jM:Int
 b8:Int
 j4:Int
 fq:Int
 bQ:Int
 deriving DecidableEq
def aM.pv(x:aM):PV:=.agg [.str x.id,.int .i64 x.jM,.int .i64 x.b8,.int .i64 x.j4,.int .i64 x.fq,.int .i64 x.bQ]
structure aM.fB(M:Nat)(x:aM):Prop where
 id:x.id.length≤M
 jM:jN x.jM
 b8:jN x.b8
 j4:jN x.j4
 fq:jN x.fq
 bQ:jN x.bQ
abbrev aM.Ok(x:aM):Prop:=x.fB maxLen
structure ay where
 stops:List Stop
 aj:List ax
 dp:List mL
 jK:List pF
 ae:List br
 bV:List bl
 vf:List iJ
 lO:List gD
 paths:List Path
 aK:List aM
 bp:Int
 within:Int
 cap:Int
def ay.pv(x:ay):PV:=.agg [.rs 4 (x.stops.map Stop.pv),.rs 3 (x.aj.map ax.pv),.rs 10 (x.dp.map mL.pv),.rs 3 (x.jK.map pF.pv),.rs 5 (x.ae.map br.pv),.rs 4 (x.bV.map bl.pv),.rs 2 (x.vf.map iJ.pv),.rs 3 (x.lO.map gD.pv),.rs 4 (x.paths.map Path.pv),.rs 6 (x.aK.map aM.pv),.int .i64 x.bp,.int .i64 x.within,.int .i64 x.cap]
structure ay.fB(M:Nat)(x:ay):Prop where
 stops:x.stops.length≤M∧∀y∈x.stops,y.fB M
 aj:x.aj.length≤M∧∀y∈x.aj,y.fB M
 dp:x.dp.length≤M∧∀y∈x.dp,y.fB M
 jK:x.jK.length≤M∧∀y∈x.jK,y.fB M
 ae:x.ae.length≤M∧∀y∈x.ae,y.fB M
 bV:x.bV.length≤M∧∀y∈x.bV,y.fB M
 vf:x.vf.length≤M∧∀y∈x.vf,y.fB M
 lO:x.lO.length≤M∧∀y∈x.lO,y.fB M
 paths:x.paths.length≤M∧∀y∈x.paths,y.fB M
 aK:x.aK.length≤M∧∀y∈x.aK,y.fB M
 bp:jN x.bp
 within:jN x.within
 cap:jN x.cap
abbrev ay.Ok(x:ay):Prop:=x.fB maxLen
section
variable {P:Program} {M d:Nat} {t:TypeId} {a:List PV}
theorem bP{fs:Array Field}(hu:P.underlying t=some (.struct fs))(h:eF M P (d+1) t a):pU P (eF M P d) fs.toList a:=by unfold eF at h;rw[hu]at h;exact h
theorem abz{n:Nat}{e:TypeId}(hu:P.underlying t=some (.array n e))(h:eF M P (d+1) t a):ac3 (eF M P d e) (bj P e) n a:=by unfold eF at h;rw[hu]at h;exact h
theorem EP(hu:P.underlying t=some .string)(h:eF M P (d+1) t a):∃s:Bytes,a=[.str s]∧s.length≤M:=by unfold eF at h;rw[hu]at h;exact h
theorem ba{k:IntKind}(hu:P.underlying t=some (.int k))(h:eF M P (d+1) t a):∃n,a=[.int k n]∧(Lit.int k n).wf=true:=by unfold eF at h;rw[hu]at h;exact h
theorem dn(hu:P.underlying t=some .bool)(h:eF M P (d+1) t a):∃b,a=[.bool b]:=by unfold eF at h;rw[hu]at h;exact h
theorem JV{B:Type}{f:B→PV}{Q:B→Prop}:∀{es:List PV},(∀x∈es,∃s,x=f s∧Q s)→∃l:List B,es=l.map f∧∀s∈l,Q s
 |[],_=>⟨[],rfl,by simp⟩
 |x::es,h=>by
  obtain⟨s,hs,hq⟩:=h x (by simp);obtain⟨l,hl,hql⟩:=JV (es:=es) fun y hy=>h y (by simp[hy]);exact⟨s::l,by simp[hs,hl],fun y hy=>by
   rcases asm.1 hy with rfl|hy
   ·exact hq
   ·exact hql y hy⟩
theorem dN{e:TypeId}{B:Type}{f:B→PV}{Q:B→Prop}(hu:P.underlying t=some (.slice e))(RU:aN P e=true){c:Nat}(hc:bj P e=c)(hB:∀qs,eF M P d e qs→∃s,CB true qs=f s∧Q s)(h:eF M P (d+1) t a):∃l:List B,a=[.rs c (l.map f)]∧l.length≤M∧∀s∈l,Q s:=by
 unfold eF at h;rw[hu]at h;obtain⟨es,rfl,hl,he⟩:=h;obtain⟨l,rfl,hq⟩:=JV (f:=f) (Q:=Q) (es:=es) fun x hx=>by obtain⟨qs,rfl,_,hs⟩:=he x hx;rw[RU];exact hB qs hs
 exact⟨l,by rw[hc],by simpa using hl,hq⟩
end
end Go.Ab.Tt
