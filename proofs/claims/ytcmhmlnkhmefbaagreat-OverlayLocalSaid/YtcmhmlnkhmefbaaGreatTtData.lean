import Derived.Test.YtcmhmlnkhmefbaaGreatAbTrod
namespace Go.Ab.Tt
abbrev jV(n:Int):Prop:=(Lit.int .i64 n).wf=true
structure Stop where
 id:Bytes
 sW:Int
 free:Bool
 change:Int
 deriving DecidableEq
def Stop.pv(x:Stop):PV:=.agg [.str x.id,.int .i64 x.sW,.bool x.free,.int .i64 x.change]
structure Stop.js(M:Nat)(x:Stop):Prop where
 id:x.id.length≤M
 sW:jV x.sW
 change:jV x.change
abbrev Stop.Ok(x:Stop):Prop:=x.js maxLen
structure av where
 id:Bytes
 mode:Int
 ago:Bool
 deriving DecidableEq
def av.pv(x:av):PV:=.agg [.str x.id,.int .i64 x.mode,.bool x.ago]
structure av.js(M:Nat)(x:av):Prop where
 id:x.id.length≤M
 mode:jV x.mode
abbrev av.Ok(x:av):Prop:=x.js maxLen
structure Wz where
 id:Bytes
 w0:Bool
 w1:Bool
 w2:Bool
 w3:Bool
 w4:Bool
 w5:Bool
 w6:Bool
 YU:Int
 YV:Int
 deriving DecidableEq
def Wz.pv(x:Wz):PV:=.agg [.str x.id,.bool x.w0,.bool x.w1,.bool x.w2,.bool x.w3,.bool x.w4,.bool x.w5,.bool x.w6,.int .i64 x.YU,.int .i64 x.YV]
structure Wz.js(M:Nat)(x:Wz):Prop where
 id:x.id.length≤M
 YU:jV x.YU
 YV:jV x.YV
abbrev Wz.Ok(x:Wz):Prop:=x.js maxLen
structure WA where
 YW:Int
 day:Int
 added:Bool
 deriving DecidableEq
def WA.pv(x:WA):PV:=.agg [.int .i64 x.YW,.int .i64 x.day,.bool x.added]
structure WA.js(M:Nat)(x:WA):Prop where
 YW:jV x.YW
 day:jV x.day
abbrev WA.Ok(x:WA):Prop:=x.js maxLen
structure aw where
 stop:Int
 arr:Int
 dep:Int
 HC:Bool
 Cv:Bool
 deriving DecidableEq
def aw.pv(x:aw):PV:=.agg [.int .i64 x.stop,.int .i64 x.arr,.int .i64 x.dep,.bool x.HC,.bool x.Cv]
structure aw.js(M:Nat)(x:aw):Prop where
 stop:jV x.stop
 arr:jV x.arr
 dep:jV x.dep
abbrev aw.Ok(x:aw):Prop:=x.js maxLen
structure Iu where
 id:Bytes
 bj:Int
 YW:Int
 free:Bool
 calls:List aw
 deriving DecidableEq
def Iu.pv(x:Iu):PV:=.agg [.str x.id,.int .i64 x.bj,.int .i64 x.YW,.bool x.free,.rs 5 (x.calls.map aw.pv)]
structure Iu.js(M:Nat)(x:Iu):Prop where
 id:x.id.length≤M
 bj:jV x.bj
 YW:jV x.YW
 calls:x.calls.length≤M∧∀y∈x.calls,y.js M
abbrev Iu.Ok(x:Iu):Prop:=x.js maxLen
structure Iv where
 dw:Int
 t0:Int
 t1:Int
 every:Int
 deriving DecidableEq
def Iv.pv(x:Iv):PV:=.agg [.int .i64 x.dw,.int .i64 x.t0,.int .i64 x.t1,.int .i64 x.every]
structure Iv.js(M:Nat)(x:Iv):Prop where
 dw:jV x.dw
 t0:jV x.t0
 t1:jV x.t1
 every:jV x.every
abbrev Iv.Ok(x:Iv):Prop:=x.js maxLen
structure WB where
 a:Int
 b:Int
 deriving DecidableEq
def WB.pv(x:WB):PV:=.agg [.int .i64 x.a,.int .i64 x.b]
structure WB.js(M:Nat)(x:WB):Prop where
 a:jV x.a
 b:jV x.b
abbrev WB.Ok(x:WB):Prop:=x.js maxLen
structure Iw where
 a:Int
 b:Int
 stop:Int
 deriving DecidableEq
def Iw.pv(x:Iw):PV:=.agg [.int .i64 x.a,.int .i64 x.b,.int .i64 x.stop]
structure Iw.js(M:Nat)(x:Iw):Prop where
 a:jV x.a
 b:jV x.b
 stop:jV x.stop
abbrev Iw.Ok(x:Iw):Prop:=x.js maxLen
structure Path where
 a:Int
 b:Int
 bS:Int
 free:Bool
 deriving DecidableEq
def Path.pv(x:Path):PV:=.agg [.int .i64 x.a,.int .i64 x.b,.int .i64 x.bS,.bool x.free]
structure Path.js(M:Nat)(x:Path):Prop where
 a:jV x.a
 b:jV x.b
 bS:jV x.bS
abbrev Path.Ok(x:Path):Prop:=x.js maxLen
structure aR where
 id:Bytes
 zH:Int
 zI:Int
 zJ:Int
 bS:Int
 zK:Int
 deriving DecidableEq
def aR.pv(x:aR):PV:=.agg [.str x.id,.int .i64 x.zH,.int .i64 x.zI,.int .i64 x.zJ,.int .i64 x.bS,.int .i64 x.zK]
structure aR.js(M:Nat)(x:aR):Prop where
 id:x.id.length≤M
 zH:jV x.zH
 zI:jV x.zI
 zJ:jV x.zJ
 bS:jV x.bS
 zK:jV x.zK
abbrev aR.Ok(x:aR):Prop:=x.js maxLen
structure nZ where
 stops:List Stop
 ae:List av
 Vn:List Wz
 Vo:List WA
 NL:List Iu
 NM:List Iv
 Vp:List WB
 NN:List Iw
 paths:List Path
 ar:List aR
 aO:Int
 within:Int
 cap:Int
def nZ.pv(x:nZ):PV:=.agg [.rs 4 (x.stops.map Stop.pv),.rs 3 (x.ae.map av.pv),.rs 10 (x.Vn.map Wz.pv),.rs 3 (x.Vo.map WA.pv),.rs 5 (x.NL.map Iu.pv),.rs 4 (x.NM.map Iv.pv),.rs 2 (x.Vp.map WB.pv),.rs 3 (x.NN.map Iw.pv),.rs 4 (x.paths.map Path.pv),.rs 6 (x.ar.map aR.pv),.int .i64 x.aO,.int .i64 x.within,.int .i64 x.cap]
structure nZ.js(M:Nat)(x:nZ):Prop where
 stops:x.stops.length≤M∧∀y∈x.stops,y.js M
 ae:x.ae.length≤M∧∀y∈x.ae,y.js M
 Vn:x.Vn.length≤M∧∀y∈x.Vn,y.js M
 Vo:x.Vo.length≤M∧∀y∈x.Vo,y.js M
 NL:x.NL.length≤M∧∀y∈x.NL,y.js M
 NM:x.NM.length≤M∧∀y∈x.NM,y.js M
 Vp:x.Vp.length≤M∧∀y∈x.Vp,y.js M
 NN:x.NN.length≤M∧∀y∈x.NN,y.js M
 paths:x.paths.length≤M∧∀y∈x.paths,y.js M
 ar:x.ar.length≤M∧∀y∈x.ar,y.js M
 aO:jV x.aO
 within:jV x.within
 cap:jV x.cap
abbrev nZ.Ok(x:nZ):Prop:=x.js maxLen
section
variable {P:Program} {M d:Nat} {t:TypeId} {a:List PV}
theorem fX{fs:Array Field}(hu:P.underlying t=some (.struct fs))(h:gf M P (d+1) t a):xn P (gf M P d) fs.toList a:=by unfold gf at h;rw[hu]at h;exact h
theorem xM(hu:P.underlying t=some .string)(h:gf M P (d+1) t a):∃s:Bytes,a=[.str s]∧s.length≤M:=by unfold gf at h;rw[hu]at h;exact h
theorem ca{k:IntKind}(hu:P.underlying t=some (.int k))(h:gf M P (d+1) t a):∃n,a=[.int k n]∧(Lit.int k n).wf=true:=by unfold gf at h;rw[hu]at h;exact h
theorem lP(hu:P.underlying t=some .bool)(h:gf M P (d+1) t a):∃b,a=[.bool b]:=by unfold gf at h;rw[hu]at h;exact h
theorem Ac{B:Type}{f:B→PV}{Q:B→Prop}:∀{es:List PV},(∀x∈es,∃s,x=f s∧Q s)→∃l:List B,es=l.map f∧∀s∈l,Q s
 |[],_=>⟨[],rfl,by simp⟩
 |x::es,h=>by
  obtain⟨s,hs,hq⟩:=h x (by simp);obtain⟨l,hl,TL⟩:=Ac (es:=es) fun y hy=>h y (by simp[hy]);exact⟨s::l,by simp[hs,hl],fun y hy=>by
   rcases List.mem_cons.1 hy with rfl|hy
   ·exact hq
   ·exact TL y hy⟩
theorem na{e:TypeId}{B:Type}{f:B→PV}{Q:B→Prop}(hu:P.underlying t=some (.slice e))(Al:aF P e=true){c:Nat}(hc:aT P e=c)(hB:∀qs,gf M P d e qs→∃s,AD true qs=f s∧Q s)(h:gf M P (d+1) t a):∃l:List B,a=[.rs c (l.map f)]∧l.length≤M∧∀s∈l,Q s:=by
 unfold gf at h;rw[hu]at h;obtain⟨es,rfl,hl,he⟩:=h;obtain⟨l,rfl,hq⟩:=Ac (f:=f) (Q:=Q) (es:=es) fun x hx=>by obtain⟨qs,rfl,_,hs⟩:=he x hx;rw[Al];exact hB qs hs
 exact⟨l,by rw[hc],by simpa using hl,hq⟩
end
end Go.Ab.Tt
