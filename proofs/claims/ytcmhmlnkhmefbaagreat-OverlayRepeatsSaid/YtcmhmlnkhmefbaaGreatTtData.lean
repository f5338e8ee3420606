import Derived.Test.YtcmhmlnkhmefbaaGreatAbTrod
namespace Go.Ab.Tt
abbrev jT(n:Int):Prop:=(Lit.int .i64 n).wf=true
structure Stop where
 id:Bytes
 sW:Int
 free:Bool
 change:Int
 deriving DecidableEq
def Stop.pv(x:Stop):PV:=.agg [.str x.id,.int .i64 x.sW,.bool x.free,.int .i64 x.change]
structure Stop.jo(M:Nat)(x:Stop):Prop where
 id:x.id.length≤M
 sW:jT x.sW
 change:jT x.change
abbrev Stop.Ok(x:Stop):Prop:=x.jo maxLen
structure av where
 id:Bytes
 mode:Int
 agl:Bool
 deriving DecidableEq
def av.pv(x:av):PV:=.agg [.str x.id,.int .i64 x.mode,.bool x.agl]
structure av.jo(M:Nat)(x:av):Prop where
 id:x.id.length≤M
 mode:jT x.mode
abbrev av.Ok(x:av):Prop:=x.jo maxLen
structure Wv where
 id:Bytes
 w0:Bool
 w1:Bool
 w2:Bool
 w3:Bool
 w4:Bool
 w5:Bool
 w6:Bool
 YJ:Int
 YK:Int
 deriving DecidableEq
def Wv.pv(x:Wv):PV:=.agg [.str x.id,.bool x.w0,.bool x.w1,.bool x.w2,.bool x.w3,.bool x.w4,.bool x.w5,.bool x.w6,.int .i64 x.YJ,.int .i64 x.YK]
structure Wv.jo(M:Nat)(x:Wv):Prop where
 id:x.id.length≤M
 YJ:jT x.YJ
 YK:jT x.YK
abbrev Wv.Ok(x:Wv):Prop:=x.jo maxLen
structure Ww where
 YM:Int
 day:Int
 added:Bool
 deriving DecidableEq
def Ww.pv(x:Ww):PV:=.agg [.int .i64 x.YM,.int .i64 x.day,.bool x.added]
structure Ww.jo(M:Nat)(x:Ww):Prop where
 YM:jT x.YM
 day:jT x.day
abbrev Ww.Ok(x:Ww):Prop:=x.jo maxLen
structure aw where
 stop:Int
 arr:Int
 dep:Int
 Hw:Bool
 Ct:Bool
 deriving DecidableEq
def aw.pv(x:aw):PV:=.agg [.int .i64 x.stop,.int .i64 x.arr,.int .i64 x.dep,.bool x.Hw,.bool x.Ct]
structure aw.jo(M:Nat)(x:aw):Prop where
 stop:jT x.stop
 arr:jT x.arr
 dep:jT x.dep
abbrev aw.Ok(x:aw):Prop:=x.jo maxLen
structure Io where
 id:Bytes
 bk:Int
 YM:Int
 free:Bool
 calls:List aw
 deriving DecidableEq
def Io.pv(x:Io):PV:=.agg [.str x.id,.int .i64 x.bk,.int .i64 x.YM,.bool x.free,.rs 5 (x.calls.map aw.pv)]
structure Io.jo(M:Nat)(x:Io):Prop where
 id:x.id.length≤M
 bk:jT x.bk
 YM:jT x.YM
 calls:x.calls.length≤M∧∀y∈x.calls,y.jo M
abbrev Io.Ok(x:Io):Prop:=x.jo maxLen
structure Ip where
 dw:Int
 t0:Int
 t1:Int
 every:Int
 deriving DecidableEq
def Ip.pv(x:Ip):PV:=.agg [.int .i64 x.dw,.int .i64 x.t0,.int .i64 x.t1,.int .i64 x.every]
structure Ip.jo(M:Nat)(x:Ip):Prop where
 dw:jT x.dw
 t0:jT x.t0
 t1:jT x.t1
 every:jT x.every
abbrev Ip.Ok(x:Ip):Prop:=x.jo maxLen
structure Wx where
 a:Int
 b:Int
 deriving DecidableEq
def Wx.pv(x:Wx):PV:=.agg [.int .i64 x.a,.int .i64 x.b]
structure Wx.jo(M:Nat)(x:Wx):Prop where
 a:jT x.a
 b:jT x.b
abbrev Wx.Ok(x:Wx):Prop:=x.jo maxLen
structure Iq where
 a:Int
 b:Int
 stop:Int
 deriving DecidableEq
def Iq.pv(x:Iq):PV:=.agg [.int .i64 x.a,.int .i64 x.b,.int .i64 x.stop]
structure Iq.jo(M:Nat)(x:Iq):Prop where
 a:jT x.a
 b:jT x.b
 stop:jT x.stop
abbrev Iq.Ok(x:Iq):Prop:=x.jo maxLen
structure Path where
 a:Int
 b:Int
 bT:Int
 free:Bool
 deriving DecidableEq
def Path.pv(x:Path):PV:=.agg [.int .i64 x.a,.int .i64 x.b,.int .i64 x.bT,.bool x.free]
structure Path.jo(M:Nat)(x:Path):Prop where
 a:jT x.a
 b:jT x.b
 bT:jT x.bT
abbrev Path.Ok(x:Path):Prop:=x.jo maxLen
structure aR where
 id:Bytes
 zD:Int
 zF:Int
 zG:Int
 bT:Int
 zH:Int
 deriving DecidableEq
def aR.pv(x:aR):PV:=.agg [.str x.id,.int .i64 x.zD,.int .i64 x.zF,.int .i64 x.zG,.int .i64 x.bT,.int .i64 x.zH]
structure aR.jo(M:Nat)(x:aR):Prop where
 id:x.id.length≤M
 zD:jT x.zD
 zF:jT x.zF
 zG:jT x.zG
 bT:jT x.bT
 zH:jT x.zH
abbrev aR.Ok(x:aR):Prop:=x.jo maxLen
structure nY where
 stops:List Stop
 ae:List av
 Vj:List Wv
 Vk:List Ww
 NG:List Io
 NH:List Ip
 Vl:List Wx
 NI:List Iq
 paths:List Path
 ar:List aR
 aO:Int
 within:Int
 cap:Int
def nY.pv(x:nY):PV:=.agg [.rs 4 (x.stops.map Stop.pv),.rs 3 (x.ae.map av.pv),.rs 10 (x.Vj.map Wv.pv),.rs 3 (x.Vk.map Ww.pv),.rs 5 (x.NG.map Io.pv),.rs 4 (x.NH.map Ip.pv),.rs 2 (x.Vl.map Wx.pv),.rs 3 (x.NI.map Iq.pv),.rs 4 (x.paths.map Path.pv),.rs 6 (x.ar.map aR.pv),.int .i64 x.aO,.int .i64 x.within,.int .i64 x.cap]
structure nY.jo(M:Nat)(x:nY):Prop where
 stops:x.stops.length≤M∧∀y∈x.stops,y.jo M
 ae:x.ae.length≤M∧∀y∈x.ae,y.jo M
 Vj:x.Vj.length≤M∧∀y∈x.Vj,y.jo M
 Vk:x.Vk.length≤M∧∀y∈x.Vk,y.jo M
 NG:x.NG.length≤M∧∀y∈x.NG,y.jo M
 NH:x.NH.length≤M∧∀y∈x.NH,y.jo M
 Vl:x.Vl.length≤M∧∀y∈x.Vl,y.jo M
 NI:x.NI.length≤M∧∀y∈x.NI,y.jo M
 paths:x.paths.length≤M∧∀y∈x.paths,y.jo M
 ar:x.ar.length≤M∧∀y∈x.ar,y.jo M
 aO:jT x.aO
 within:jT x.within
 cap:jT x.cap
abbrev nY.Ok(x:nY):Prop:=x.jo maxLen
section
variable {P:Program} {M d:Nat} {t:TypeId} {a:List PV}
theorem fV{fs:Array Field}(hu:P.underlying t=some (.struct fs))(h:ga M P (d+1) t a):xl P (ga M P d) fs.toList a:=by unfold ga at h;rw[hu]at h;exact h
theorem xK(hu:P.underlying t=some .string)(h:ga M P (d+1) t a):∃s:Bytes,a=[.str s]∧s.length≤M:=by unfold ga at h;rw[hu]at h;exact h
theorem ca{k:IntKind}(hu:P.underlying t=some (.int k))(h:ga M P (d+1) t a):∃n,a=[.int k n]∧(Lit.int k n).wf=true:=by unfold ga at h;rw[hu]at h;exact h
theorem lM(hu:P.underlying t=some .bool)(h:ga M P (d+1) t a):∃b,a=[.bool b]:=by unfold ga at h;rw[hu]at h;exact h
theorem zY{B:Type}{f:B→PV}{Q:B→Prop}:∀{es:List PV},(∀x∈es,∃s,x=f s∧Q s)→∃l:List B,es=l.map f∧∀s∈l,Q s
 |[],_=>⟨[],rfl,by simp⟩
 |x::es,h=>by
  obtain⟨s,hs,hq⟩:=h x (by simp);obtain⟨l,hl,TI⟩:=zY (es:=es) fun y hy=>h y (by simp[hy]);exact⟨s::l,by simp[hs,hl],fun y hy=>by
   rcases List.mem_cons.1 hy with rfl|hy
   ·exact hq
   ·exact TI y hy⟩
theorem mT{e:TypeId}{B:Type}{f:B→PV}{Q:B→Prop}(hu:P.underlying t=some (.slice e))(Aj:aF P e=true){c:Nat}(hc:aT P e=c)(hB:∀qs,ga M P d e qs→∃s,AD true qs=f s∧Q s)(h:ga M P (d+1) t a):∃l:List B,a=[.rs c (l.map f)]∧l.length≤M∧∀s∈l,Q s:=by
 unfold ga at h;rw[hu]at h;obtain⟨es,rfl,hl,he⟩:=h;obtain⟨l,rfl,hq⟩:=zY (f:=f) (Q:=Q) (es:=es) fun x hx=>by obtain⟨qs,rfl,_,hs⟩:=he x hx;rw[Aj];exact hB qs hs
 exact⟨l,by rw[hc],by simpa using hl,hq⟩
end
end Go.Ab.Tt
