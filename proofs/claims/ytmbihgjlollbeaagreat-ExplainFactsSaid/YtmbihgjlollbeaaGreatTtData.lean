import Derived.Test.YtmbihgjlollbeaaGreatAbTrod
namespace Go.Ab.Tt
abbrev jM(n:Int):Prop:=(Lit.int .i64 n).wf=true
structure Stop where
 id:Bytes
 ua:Int
 free:Bool
 change:Int
 deriving DecidableEq
def Stop.pv(x:Stop):PV:=.agg [.str x.id,.int .i64 x.ua,.bool x.free,.int .i64 x.change]
structure Stop.fR(M:Nat)(x:Stop):Prop where
 id:x.id.length≤M
 ua:jM x.ua
 change:jM x.change
abbrev Stop.Ok(x:Stop):Prop:=x.fR maxLen
structure ax where
 id:Bytes
 mode:Int
 rG:Bool
 deriving DecidableEq
def ax.pv(x:ax):PV:=.agg [.str x.id,.int .i64 x.mode,.bool x.rG]
structure ax.fR(M:Nat)(x:ax):Prop where
 id:x.id.length≤M
 mode:jM x.mode
abbrev ax.Ok(x:ax):Prop:=x.fR maxLen
structure mJ where
 id:Bytes
 w0:Bool
 w1:Bool
 w2:Bool
 w3:Bool
 w4:Bool
 w5:Bool
 w6:Bool
 Cp:Int
 Cq:Int
 deriving DecidableEq
def mJ.pv(x:mJ):PV:=.agg [.str x.id,.bool x.w0,.bool x.w1,.bool x.w2,.bool x.w3,.bool x.w4,.bool x.w5,.bool x.w6,.int .i64 x.Cp,.int .i64 x.Cq]
structure mJ.fR(M:Nat)(x:mJ):Prop where
 id:x.id.length≤M
 Cp:jM x.Cp
 Cq:jM x.Cq
abbrev mJ.Ok(x:mJ):Prop:=x.fR maxLen
structure pE where
 wB:Int
 day:Int
 added:Bool
 deriving DecidableEq
def pE.pv(x:pE):PV:=.agg [.int .i64 x.wB,.int .i64 x.day,.bool x.added]
structure pE.fR(M:Nat)(x:pE):Prop where
 wB:jM x.wB
 day:jM x.day
abbrev pE.Ok(x:pE):Prop:=x.fR maxLen
structure aY where
 stop:Int
 arr:Int
 dep:Int
 ca:Bool
 bC:Bool
 deriving DecidableEq
def aY.pv(x:aY):PV:=.agg [.int .i64 x.stop,.int .i64 x.arr,.int .i64 x.dep,.bool x.ca,.bool x.bC]
structure aY.fR(M:Nat)(x:aY):Prop where
 stop:jM x.stop
 arr:jM x.arr
 dep:jM x.dep
abbrev aY.Ok(x:aY):Prop:=x.fR maxLen
structure br where
 id:Bytes
 dF:Int
 wB:Int
 free:Bool
 calls:List aY
 deriving DecidableEq
def br.pv(x:br):PV:=.agg [.str x.id,.int .i64 x.dF,.int .i64 x.wB,.bool x.free,.rs 5 (x.calls.map aY.pv)]
structure br.fR(M:Nat)(x:br):Prop where
 id:x.id.length≤M
 dF:jM x.dF
 wB:jM x.wB
 calls:x.calls.length≤M∧∀y∈x.calls,y.fR M
abbrev br.Ok(x:br):Prop:=x.fR maxLen
structure bl where
 bD:Int
 t0:Int
 t1:Int
 every:Int
 deriving DecidableEq
def bl.pv(x:bl):PV:=.agg [.int .i64 x.bD,.int .i64 x.t0,.int .i64 x.t1,.int .i64 x.every]
structure bl.fR(M:Nat)(x:bl):Prop where
 bD:jM x.bD
 t0:jM x.t0
 t1:jM x.t1
 every:jM x.every
abbrev bl.Ok(x:bl):Prop:=x.fR maxLen
structure iG where
 a:Int
 b:Int
 deriving DecidableEq
def iG.pv(x:iG):PV:=.agg [.int .i64 x.a,.int .i64 x.b]
structure iG.fR(M:Nat)(x:iG):Prop where
 a:jM x.a
 b:jM x.b
abbrev iG.Ok(x:iG):Prop:=x.fR maxLen
structure gC where
 a:Int
 b:Int
 stop:Int
 deriving DecidableEq
def gC.pv(x:gC):PV:=.agg [.int .i64 x.a,.int .i64 x.b,.int .i64 x.stop]
structure gC.fR(M:Nat)(x:gC):Prop where
 a:jM x.a
 b:jM x.b
 stop:jM x.stop
abbrev gC.Ok(x:gC):Prop:=x.fR maxLen
structure Path where
 a:Int
 b:Int
 fq:Int
 free:Bool
 deriving DecidableEq
def Path.pv(x:Path):PV:=.agg [.int .i64 x.a,.int .i64 x.b,.int .i64 x.fq,.bool x.free]
structure Path.fR(M:Nat)(x:Path):Prop where
 a:jM x.a
 b:jM x.b
 fq:jM x.fq
abbrev Path.Ok(x:Path):Prop:=x.fR maxLen
structure aM where
 id:Bytes
 jL:Int
 b9:Int
 j3:Int
 fq:Int
 bP:Int
 deriving DecidableEq
def aM.pv(x:aM):PV:=.agg [.str x.id,.int .i64 x.jL,.int .i64 x.b9,.int .i64 x.j3,.int .i64 x.fq,.int .i64 x.bP]
structure aM.fR(M:Nat)(x:aM):Prop where
 id:x.id.length≤M
 jL:jM x.jL
 b9:jM x.b9
 j3:jM x.j3
 fq:jM x.fq
 bP:jM x.bP
abbrev aM.Ok(x:aM):Prop:=x.fR maxLen
structure az where
 stops:List Stop
 aj:List ax
 dm:List mJ
 jJ:List pE
 ae:List br
 bU:List bl
 uZ:List iG
 lN:List gC
 paths:List Path
 aK:List aM
 bn:Int
 within:Int
 cap:Int
def az.pv(x:az):PV:=.agg [.rs 4 (x.stops.map Stop.pv),.rs 3 (x.aj.map ax.pv),.rs 10 (x.dm.map mJ.pv),.rs 3 (x.jJ.map pE.pv),.rs 5 (x.ae.map br.pv),.rs 4 (x.bU.map bl.pv),.rs 2 (x.uZ.map iG.pv),.rs 3 (x.lN.map gC.pv),.rs 4 (x.paths.map Path.pv),.rs 6 (x.aK.map aM.pv),.int .i64 x.bn,.int .i64 x.within,.int .i64 x.cap]
structure az.fR(M:Nat)(x:az):Prop where
 stops:x.stops.length≤M∧∀y∈x.stops,y.fR M
 aj:x.aj.length≤M∧∀y∈x.aj,y.fR M
 dm:x.dm.length≤M∧∀y∈x.dm,y.fR M
 jJ:x.jJ.length≤M∧∀y∈x.jJ,y.fR M
 ae:x.ae.length≤M∧∀y∈x.ae,y.fR M
 bU:x.bU.length≤M∧∀y∈x.bU,y.fR M
 uZ:x.uZ.length≤M∧∀y∈x.uZ,y.fR M
 lN:x.lN.length≤M∧∀y∈x.lN,y.fR M
 paths:x.paths.length≤M∧∀y∈x.paths,y.fR M
 aK:x.aK.length≤M∧∀y∈x.aK,y.fR M
 bn:jM x.bn
 within:jM x.within
 cap:jM x.cap
abbrev az.Ok(x:az):Prop:=x.fR maxLen
section
variable {P:Program} {M d:Nat} {t:TypeId} {a:List PV}
theorem bT{fs:Array Field}(hu:P.underlying t=some (.struct fs))(h:eT M P (d+1) t a):rF P (eT M P d) fs.toList a:=by unfold eT at h;rw[hu]at h;exact h
theorem abr{n:Nat}{e:TypeId}(hu:P.underlying t=some (.array n e))(h:eT M P (d+1) t a):acV (eT M P d e) (bj P e) n a:=by unfold eT at h;rw[hu]at h;exact h
theorem EM(hu:P.underlying t=some .string)(h:eT M P (d+1) t a):∃s:Bytes,a=[.str s]∧s.length≤M:=by unfold eT at h;rw[hu]at h;exact h
theorem bg{k:IntKind}(hu:P.underlying t=some (.int k))(h:eT M P (d+1) t a):∃n,a=[.int k n]∧(Lit.int k n).wf=true:=by unfold eT at h;rw[hu]at h;exact h
theorem dh(hu:P.underlying t=some .bool)(h:eT M P (d+1) t a):∃b,a=[.bool b]:=by unfold eT at h;rw[hu]at h;exact h
theorem JO{B:Type}{f:B→PV}{Q:B→Prop}:∀{es:List PV},(∀x∈es,∃s,x=f s∧Q s)→∃l:List B,es=l.map f∧∀s∈l,Q s
 |[],_=>⟨[],rfl,by simp⟩
 |x::es,h=>by
  obtain⟨s,hs,hq⟩:=h x (by simp);obtain⟨l,hl,hql⟩:=JO (es:=es) fun y hy=>h y (by simp[hy]);exact⟨s::l,by simp[hs,hl],fun y hy=>by
   rcases asg.1 hy with rfl|hy
   ·exact hq
   ·exact hql y hy⟩
theorem ec{e:TypeId}{B:Type}{f:B→PV}{Q:B→Prop}(hu:P.underlying t=some (.slice e))(RO:aN P e=true){c:Nat}(hc:bj P e=c)(hB:∀qs,eT M P d e qs→∃s,EC true qs=f s∧Q s)(h:eT M P (d+1) t a):∃l:List B,a=[.rs c (l.map f)]∧l.length≤M∧∀s∈l,Q s:=by
 unfold eT at h;rw[hu]at h;obtain⟨es,rfl,hl,he⟩:=h;obtain⟨l,rfl,hq⟩:=JO (f:=f) (Q:=Q) (es:=es) fun x hx=>by obtain⟨qs,rfl,_,hs⟩:=he x hx;rw[RO];exact hB qs hs
 exact⟨l,by rw[hc],by simpa using hl,hq⟩
end
end Go.Ab.Tt
