import Derived.Test.YtcmhmlnkhmefbaaGreatAbTrod
namespace Go.Ab.Tt
abbrev jQ(n:Int):Prop:=(Lit.int .i64 n).wf=true
structure Stop where
 id:Bytes
 sS:Int
 free:Bool
 change:Int
 deriving DecidableEq
def Stop.pv(x:Stop):PV:=.agg [.str x.id,.int .i64 x.sS,.bool x.free,.int .i64 x.change]
structure Stop.jm(M:Nat)(x:Stop):Prop where
 id:x.id.length≤M
 sS:jQ x.sS
 change:jQ x.change
abbrev Stop.Ok(x:Stop):Prop:=x.jm maxLen
structure au where
 id:Bytes
 mode:Int
 agp:Bool
 deriving DecidableEq
def au.pv(x:au):PV:=.agg [.str x.id,.int .i64 x.mode,.bool x.agp]
structure au.jm(M:Nat)(x:au):Prop where
 id:x.id.length≤M
 mode:jQ x.mode
abbrev au.Ok(x:au):Prop:=x.jm maxLen
structure WN where
 id:Bytes
 w0:Bool
 w1:Bool
 w2:Bool
 w3:Bool
 w4:Bool
 w5:Bool
 w6:Bool
 YY:Int
 YZ:Int
 deriving DecidableEq
def WN.pv(x:WN):PV:=.agg [.str x.id,.bool x.w0,.bool x.w1,.bool x.w2,.bool x.w3,.bool x.w4,.bool x.w5,.bool x.w6,.int .i64 x.YY,.int .i64 x.YZ]
structure WN.jm(M:Nat)(x:WN):Prop where
 id:x.id.length≤M
 YY:jQ x.YY
 YZ:jQ x.YZ
abbrev WN.Ok(x:WN):Prop:=x.jm maxLen
structure WO where
 Y0:Int
 day:Int
 added:Bool
 deriving DecidableEq
def WO.pv(x:WO):PV:=.agg [.int .i64 x.Y0,.int .i64 x.day,.bool x.added]
structure WO.jm(M:Nat)(x:WO):Prop where
 Y0:jQ x.Y0
 day:jQ x.day
abbrev WO.Ok(x:WO):Prop:=x.jm maxLen
structure av where
 stop:Int
 arr:Int
 dep:Int
 HD:Bool
 Cq:Bool
 deriving DecidableEq
def av.pv(x:av):PV:=.agg [.int .i64 x.stop,.int .i64 x.arr,.int .i64 x.dep,.bool x.HD,.bool x.Cq]
structure av.jm(M:Nat)(x:av):Prop where
 stop:jQ x.stop
 arr:jQ x.arr
 dep:jQ x.dep
abbrev av.Ok(x:av):Prop:=x.jm maxLen
structure Ix where
 id:Bytes
 bh:Int
 Y0:Int
 free:Bool
 calls:List av
 deriving DecidableEq
def Ix.pv(x:Ix):PV:=.agg [.str x.id,.int .i64 x.bh,.int .i64 x.Y0,.bool x.free,.rs 5 (x.calls.map av.pv)]
structure Ix.jm(M:Nat)(x:Ix):Prop where
 id:x.id.length≤M
 bh:jQ x.bh
 Y0:jQ x.Y0
 calls:x.calls.length≤M∧∀y∈x.calls,y.jm M
abbrev Ix.Ok(x:Ix):Prop:=x.jm maxLen
structure Iy where
 dp:Int
 t0:Int
 t1:Int
 every:Int
 deriving DecidableEq
def Iy.pv(x:Iy):PV:=.agg [.int .i64 x.dp,.int .i64 x.t0,.int .i64 x.t1,.int .i64 x.every]
structure Iy.jm(M:Nat)(x:Iy):Prop where
 dp:jQ x.dp
 t0:jQ x.t0
 t1:jQ x.t1
 every:jQ x.every
abbrev Iy.Ok(x:Iy):Prop:=x.jm maxLen
structure WQ where
 a:Int
 b:Int
 deriving DecidableEq
def WQ.pv(x:WQ):PV:=.agg [.int .i64 x.a,.int .i64 x.b]
structure WQ.jm(M:Nat)(x:WQ):Prop where
 a:jQ x.a
 b:jQ x.b
abbrev WQ.Ok(x:WQ):Prop:=x.jm maxLen
structure Iz where
 a:Int
 b:Int
 stop:Int
 deriving DecidableEq
def Iz.pv(x:Iz):PV:=.agg [.int .i64 x.a,.int .i64 x.b,.int .i64 x.stop]
structure Iz.jm(M:Nat)(x:Iz):Prop where
 a:jQ x.a
 b:jQ x.b
 stop:jQ x.stop
abbrev Iz.Ok(x:Iz):Prop:=x.jm maxLen
structure Path where
 a:Int
 b:Int
 bM:Int
 free:Bool
 deriving DecidableEq
def Path.pv(x:Path):PV:=.agg [.int .i64 x.a,.int .i64 x.b,.int .i64 x.bM,.bool x.free]
structure Path.jm(M:Nat)(x:Path):Prop where
 a:jQ x.a
 b:jQ x.b
 bM:jQ x.bM
abbrev Path.Ok(x:Path):Prop:=x.jm maxLen
structure aQ where
 id:Bytes
 zz:Int
 zA:Int
 zB:Int
 bM:Int
 zC:Int
 deriving DecidableEq
def aQ.pv(x:aQ):PV:=.agg [.str x.id,.int .i64 x.zz,.int .i64 x.zA,.int .i64 x.zB,.int .i64 x.bM,.int .i64 x.zC]
structure aQ.jm(M:Nat)(x:aQ):Prop where
 id:x.id.length≤M
 zz:jQ x.zz
 zA:jQ x.zA
 zB:jQ x.zB
 bM:jQ x.bM
 zC:jQ x.zC
abbrev aQ.Ok(x:aQ):Prop:=x.jm maxLen
structure nW where
 stops:List Stop
 ae:List au
 VD:List WN
 VE:List WO
 NR:List Ix
 NS:List Iy
 VF:List WQ
 NT:List Iz
 paths:List Path
 aq:List aQ
 aN:Int
 within:Int
 cap:Int
def nW.pv(x:nW):PV:=.agg [.rs 4 (x.stops.map Stop.pv),.rs 3 (x.ae.map au.pv),.rs 10 (x.VD.map WN.pv),.rs 3 (x.VE.map WO.pv),.rs 5 (x.NR.map Ix.pv),.rs 4 (x.NS.map Iy.pv),.rs 2 (x.VF.map WQ.pv),.rs 3 (x.NT.map Iz.pv),.rs 4 (x.paths.map Path.pv),.rs 6 (x.aq.map aQ.pv),.int .i64 x.aN,.int .i64 x.within,.int .i64 x.cap]
structure nW.jm(M:Nat)(x:nW):Prop where
 stops:x.stops.length≤M∧∀y∈x.stops,y.jm M
 ae:x.ae.length≤M∧∀y∈x.ae,y.jm M
 VD:x.VD.length≤M∧∀y∈x.VD,y.jm M
 VE:x.VE.length≤M∧∀y∈x.VE,y.jm M
 NR:x.NR.length≤M∧∀y∈x.NR,y.jm M
 NS:x.NS.length≤M∧∀y∈x.NS,y.jm M
 VF:x.VF.length≤M∧∀y∈x.VF,y.jm M
 NT:x.NT.length≤M∧∀y∈x.NT,y.jm M
 paths:x.paths.length≤M∧∀y∈x.paths,y.jm M
 aq:x.aq.length≤M∧∀y∈x.aq,y.jm M
 aN:jQ x.aN
 within:jQ x.within
 cap:jQ x.cap
abbrev nW.Ok(x:nW):Prop:=x.jm maxLen
section
variable {P:Program} {M d:Nat} {t:TypeId} {a:List PV}
theorem fV{fs:Array Field}(hu:P.underlying t=some (.struct fs))(h:ga M P (d+1) t a):xf P (ga M P d) fs.toList a:=by unfold ga at h;rw[hu]at h;exact h
theorem xE(hu:P.underlying t=some .string)(h:ga M P (d+1) t a):∃s:Bytes,a=[.str s]∧s.length≤M:=by unfold ga at h;rw[hu]at h;exact h
theorem bZ{k:IntKind}(hu:P.underlying t=some (.int k))(h:ga M P (d+1) t a):∃n,a=[.int k n]∧(Lit.int k n).wf=true:=by unfold ga at h;rw[hu]at h;exact h
theorem lL(hu:P.underlying t=some .bool)(h:ga M P (d+1) t a):∃b,a=[.bool b]:=by unfold ga at h;rw[hu]at h;exact h
theorem zV{B:Type}{f:B→PV}{Q:B→Prop}:∀{es:List PV},(∀x∈es,∃s,x=f s∧Q s)→∃l:List B,es=l.map f∧∀s∈l,Q s
 |[],_=>⟨[],rfl,by simp⟩
 |x::es,h=>by
  obtain⟨s,hs,hq⟩:=h x (by simp);obtain⟨l,hl,TX⟩:=zV (es:=es) fun y hy=>h y (by simp[hy]);exact⟨s::l,by simp[hs,hl],fun y hy=>by
   rcases List.mem_cons.1 hy with rfl|hy
   ·exact hq
   ·exact TX y hy⟩
theorem mT{e:TypeId}{B:Type}{f:B→PV}{Q:B→Prop}(hu:P.underlying t=some (.slice e))(Ae:aD P e=true){c:Nat}(hc:aS P e=c)(hB:∀qs,ga M P d e qs→∃s,Av true qs=f s∧Q s)(h:ga M P (d+1) t a):∃l:List B,a=[.rs c (l.map f)]∧l.length≤M∧∀s∈l,Q s:=by
 unfold ga at h;rw[hu]at h;obtain⟨es,rfl,hl,he⟩:=h;obtain⟨l,rfl,hq⟩:=zV (f:=f) (Q:=Q) (es:=es) fun x hx=>by obtain⟨qs,rfl,_,hs⟩:=he x hx;rw[Ae];exact hB qs hs
 exact⟨l,by rw[hc],by simpa using hl,hq⟩
end
end Go.Ab.Tt
