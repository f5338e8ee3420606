import Derived.Test.YtoaknfoobjnjgaaGreatAbTrod
namespace Go.Ab.Tt
abbrev qj(n:Int):Prop:=(Lit.int .i64 n).wf=true
structure Stop where
 id:Bytes
 NY:Int
 free:Bool
 change:Int
 deriving DecidableEq
def Stop.pv(x:Stop):PV:=.agg [.str x.id,.int .i64 x.NY,.bool x.free,.int .i64 x.change]
structure Stop.kT(M:Nat)(x:Stop):Prop where
 id:x.id.length≤M
 NY:qj x.NY
 change:qj x.change
abbrev Stop.Ok(x:Stop):Prop:=x.kT maxLen
structure aQ where
 id:Bytes
 mode:Int
 anw:Bool
 deriving DecidableEq
def aQ.pv(x:aQ):PV:=.agg [.str x.id,.int .i64 x.mode,.bool x.anw]
structure aQ.kT(M:Nat)(x:aQ):Prop where
 id:x.id.length≤M
 mode:qj x.mode
abbrev aQ.Ok(x:aQ):Prop:=x.kT maxLen
structure oB where
 id:Bytes
 w0:Bool
 w1:Bool
 w2:Bool
 w3:Bool
 w4:Bool
 w5:Bool
 w6:Bool
 Az:Int
 AA:Int
 deriving DecidableEq
def oB.pv(x:oB):PV:=.agg [.str x.id,.bool x.w0,.bool x.w1,.bool x.w2,.bool x.w3,.bool x.w4,.bool x.w5,.bool x.w6,.int .i64 x.Az,.int .i64 x.AA]
structure oB.kT(M:Nat)(x:oB):Prop where
 id:x.id.length≤M
 Az:qj x.Az
 AA:qj x.AA
abbrev oB.Ok(x:oB):Prop:=x.kT maxLen
structure sE where
 xK:Int
 day:Int
 added:Bool
 deriving DecidableEq
def sE.pv(x:sE):PV:=.agg [.int .i64 x.xK,.int .i64 x.day,.bool x.added]
structure sE.kT(M:Nat)(x:sE):Prop where
 xK:qj x.xK
 day:qj x.day
abbrev sE.Ok(x:sE):Prop:=x.kT maxLen
structure aJ where
 stop:Int
 arr:Int
 dep:Int
 QY:Bool
 Kq:Bool
 deriving DecidableEq
def aJ.pv(x:aJ):PV:=.agg [.int .i64 x.stop,.int .i64 x.arr,.int .i64 x.dep,.bool x.QY,.bool x.Kq]
structure aJ.kT(M:Nat)(x:aJ):Prop where
 stop:qj x.stop
 arr:qj x.arr
 dep:qj x.dep
abbrev aJ.Ok(x:aJ):Prop:=x.kT maxLen
structure bj where
 id:Bytes
 bX:Int
 xK:Int
 free:Bool
 calls:List aJ
 deriving DecidableEq
def bj.pv(x:bj):PV:=.agg [.str x.id,.int .i64 x.bX,.int .i64 x.xK,.bool x.free,.rs 5 (x.calls.map aJ.pv)]
structure bj.kT(M:Nat)(x:bj):Prop where
 id:x.id.length≤M
 bX:qj x.bX
 xK:qj x.xK
 calls:x.calls.length≤M∧∀y∈x.calls,y.kT M
abbrev bj.Ok(x:bj):Prop:=x.kT maxLen
structure ba where
 bn:Int
 t0:Int
 t1:Int
 every:Int
 deriving DecidableEq
def ba.pv(x:ba):PV:=.agg [.int .i64 x.bn,.int .i64 x.t0,.int .i64 x.t1,.int .i64 x.every]
structure ba.kT(M:Nat)(x:ba):Prop where
 bn:qj x.bn
 t0:qj x.t0
 t1:qj x.t1
 every:qj x.every
abbrev ba.Ok(x:ba):Prop:=x.kT maxLen
structure gC where
 a:Int
 b:Int
 deriving DecidableEq
def gC.pv(x:gC):PV:=.agg [.int .i64 x.a,.int .i64 x.b]
structure gC.kT(M:Nat)(x:gC):Prop where
 a:qj x.a
 b:qj x.b
abbrev gC.Ok(x:gC):Prop:=x.kT maxLen
structure gD where
 a:Int
 b:Int
 stop:Int
 deriving DecidableEq
def gD.pv(x:gD):PV:=.agg [.int .i64 x.a,.int .i64 x.b,.int .i64 x.stop]
structure gD.kT(M:Nat)(x:gD):Prop where
 a:qj x.a
 b:qj x.b
 stop:qj x.stop
abbrev gD.Ok(x:gD):Prop:=x.kT maxLen
structure Path where
 a:Int
 b:Int
 qi:Int
 free:Bool
 deriving DecidableEq
def Path.pv(x:Path):PV:=.agg [.int .i64 x.a,.int .i64 x.b,.int .i64 x.qi,.bool x.free]
structure Path.kT(M:Nat)(x:Path):Prop where
 a:qj x.a
 b:qj x.b
 qi:qj x.qi
abbrev Path.Ok(x:Path):Prop:=x.kT maxLen
structure bp where
 id:Bytes
 Mj:Int
 Mk:Int
 Ml:Int
 qi:Int
 Mm:Int
 deriving DecidableEq
def bp.pv(x:bp):PV:=.agg [.str x.id,.int .i64 x.Mj,.int .i64 x.Mk,.int .i64 x.Ml,.int .i64 x.qi,.int .i64 x.Mm]
structure bp.kT(M:Nat)(x:bp):Prop where
 id:x.id.length≤M
 Mj:qj x.Mj
 Mk:qj x.Mk
 Ml:qj x.Ml
 qi:qj x.qi
 Mm:qj x.Mm
abbrev bp.Ok(x:bp):Prop:=x.kT maxLen
structure aj where
 stops:List Stop
 ao:List aQ
 dK:List oB
 mc:List sE
 ae:List bj
 aU:List ba
 cw:List gC
 bM:List gD
 paths:List Path
 aP:List bp
 bE:Int
 within:Int
 cap:Int
def aj.pv(x:aj):PV:=.agg [.rs 4 (x.stops.map Stop.pv),.rs 3 (x.ao.map aQ.pv),.rs 10 (x.dK.map oB.pv),.rs 3 (x.mc.map sE.pv),.rs 5 (x.ae.map bj.pv),.rs 4 (x.aU.map ba.pv),.rs 2 (x.cw.map gC.pv),.rs 3 (x.bM.map gD.pv),.rs 4 (x.paths.map Path.pv),.rs 6 (x.aP.map bp.pv),.int .i64 x.bE,.int .i64 x.within,.int .i64 x.cap]
structure aj.kT(M:Nat)(x:aj):Prop where
 stops:x.stops.length≤M∧∀y∈x.stops,y.kT M
 ao:x.ao.length≤M∧∀y∈x.ao,y.kT M
 dK:x.dK.length≤M∧∀y∈x.dK,y.kT M
 mc:x.mc.length≤M∧∀y∈x.mc,y.kT M
 ae:x.ae.length≤M∧∀y∈x.ae,y.kT M
 aU:x.aU.length≤M∧∀y∈x.aU,y.kT M
 cw:x.cw.length≤M∧∀y∈x.cw,y.kT M
 bM:x.bM.length≤M∧∀y∈x.bM,y.kT M
 paths:x.paths.length≤M∧∀y∈x.paths,y.kT M
 aP:x.aP.length≤M∧∀y∈x.aP,y.kT M
 bE:qj x.bE
 within:qj x.within
 cap:qj x.cap
abbrev aj.Ok(x:aj):Prop:=x.kT maxLen
section
variable {P:Program} {M d:Nat} {t:TypeId} {a:List PV}
theorem dY{fs:Array Field}(hu:P.underlying t=some (.struct fs))(h:gb M P (d+1) t a):Ay P (gb M P d) fs.toList a:=by unfold gb at h;rw[hu]at h;exact h
theorem Yp{n:Nat}{e:TypeId}(hu:P.underlying t=some (.array n e))(h:gb M P (d+1) t a):aam (gb M P d e) (aS P e) n a:=by unfold gb at h;rw[hu]at h;exact h
theorem Fl(hu:P.underlying t=some .string)(h:gb M P (d+1) t a):∃s:Bytes,a=[.str s]∧s.length≤M:=by unfold gb at h;rw[hu]at h;exact h
theorem bT{k:IntKind}(hu:P.underlying t=some (.int k))(h:gb M P (d+1) t a):∃n,a=[.int k n]∧(Lit.int k n).wf=true:=by unfold gb at h;rw[hu]at h;exact h
theorem ic(hu:P.underlying t=some .bool)(h:gb M P (d+1) t a):∃b,a=[.bool b]:=by unfold gb at h;rw[hu]at h;exact h
theorem HA{B:Type}{f:B→PV}{Q:B→Prop}:∀{es:List PV},(∀x∈es,∃s,x=f s∧Q s)→∃l:List B,es=l.map f∧∀s∈l,Q s
 |[],_=>⟨[],rfl,by simp⟩
 |x::es,h=>by
  obtain⟨s,hs,hq⟩:=h x (by simp);obtain⟨l,hl,OW⟩:=HA (es:=es) fun y hy=>h y (by simp[hy]);exact⟨s::l,by simp[hs,hl],fun y hy=>by
   rcases aoc.1 hy with rfl|hy
   ·exact hq
   ·exact OW y hy⟩
theorem kZ{e:TypeId}{B:Type}{f:B→PV}{Q:B→Prop}(hu:P.underlying t=some (.slice e))(PC:aG P e=true){c:Nat}(hc:aS P e=c)(hB:∀qs,gb M P d e qs→∃s,F1 true qs=f s∧Q s)(h:gb M P (d+1) t a):∃l:List B,a=[.rs c (l.map f)]∧l.length≤M∧∀s∈l,Q s:=by
 unfold gb at h;rw[hu]at h;obtain⟨es,rfl,hl,he⟩:=h;obtain⟨l,rfl,hq⟩:=HA (f:=f) (Q:=Q) (es:=es) fun x hx=>by obtain⟨qs,rfl,_,hs⟩:=he x hx;rw[PC];exact hB qs hs
 exact⟨l,by rw[hc],by simpa using hl,hq⟩
end
end Go.Ab.Tt
