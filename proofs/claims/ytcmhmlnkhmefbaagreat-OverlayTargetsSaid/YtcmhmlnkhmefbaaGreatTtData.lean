import Derived.Test.YtcmhmlnkhmefbaaGreatAbTrod
namespace Go.Ab.Tt
abbrev jJ(n:Int):Prop:=(Lit.int .i64 n).wf=true
structure Stop where
 id:Bytes
 sw:Int
 free:Bool
 change:Int
 deriving DecidableEq
def Stop.pv(x:Stop):PV:=.agg [.str x.id,.int .i64 x.sw,.bool x.free,.int .i64 x.change]
structure Stop.jb(M:Nat)(x:Stop):Prop where
 id:x.id.length≤M
 sw:jJ x.sw
 change:jJ x.change
abbrev Stop.Ok(x:Stop):Prop:=x.jb maxLen
structure aF where
 id:Bytes
 mode:Int
 afA:Bool
 deriving DecidableEq
def aF.pv(x:aF):PV:=.agg [.str x.id,.int .i64 x.mode,.bool x.afA]
structure aF.jb(M:Nat)(x:aF):Prop where
 id:x.id.length≤M
 mode:jJ x.mode
abbrev aF.Ok(x:aF):Prop:=x.jb maxLen
structure Vp where
 id:Bytes
 w0:Bool
 w1:Bool
 w2:Bool
 w3:Bool
 w4:Bool
 w5:Bool
 w6:Bool
 XB:Int
 XC:Int
 deriving DecidableEq
def Vp.pv(x:Vp):PV:=.agg [.str x.id,.bool x.w0,.bool x.w1,.bool x.w2,.bool x.w3,.bool x.w4,.bool x.w5,.bool x.w6,.int .i64 x.XB,.int .i64 x.XC]
structure Vp.jb(M:Nat)(x:Vp):Prop where
 id:x.id.length≤M
 XB:jJ x.XB
 XC:jJ x.XC
abbrev Vp.Ok(x:Vp):Prop:=x.jb maxLen
structure Vq where
 XD:Int
 day:Int
 added:Bool
 deriving DecidableEq
def Vq.pv(x:Vq):PV:=.agg [.int .i64 x.XD,.int .i64 x.day,.bool x.added]
structure Vq.jb(M:Nat)(x:Vq):Prop where
 XD:jJ x.XD
 day:jJ x.day
abbrev Vq.Ok(x:Vq):Prop:=x.jb maxLen
structure av where
 stop:Int
 arr:Int
 dep:Int
 GZ:Bool
 BU:Bool
 deriving DecidableEq
def av.pv(x:av):PV:=.agg [.int .i64 x.stop,.int .i64 x.arr,.int .i64 x.dep,.bool x.GZ,.bool x.BU]
structure av.jb(M:Nat)(x:av):Prop where
 stop:jJ x.stop
 arr:jJ x.arr
 dep:jJ x.dep
abbrev av.Ok(x:av):Prop:=x.jb maxLen
structure HJ where
 id:Bytes
 bh:Int
 XD:Int
 free:Bool
 calls:List av
 deriving DecidableEq
def HJ.pv(x:HJ):PV:=.agg [.str x.id,.int .i64 x.bh,.int .i64 x.XD,.bool x.free,.rs 5 (x.calls.map av.pv)]
structure HJ.jb(M:Nat)(x:HJ):Prop where
 id:x.id.length≤M
 bh:jJ x.bh
 XD:jJ x.XD
 calls:x.calls.length≤M∧∀y∈x.calls,y.jb M
abbrev HJ.Ok(x:HJ):Prop:=x.jb maxLen
structure HK where
 dv:Int
 t0:Int
 t1:Int
 every:Int
 deriving DecidableEq
def HK.pv(x:HK):PV:=.agg [.int .i64 x.dv,.int .i64 x.t0,.int .i64 x.t1,.int .i64 x.every]
structure HK.jb(M:Nat)(x:HK):Prop where
 dv:jJ x.dv
 t0:jJ x.t0
 t1:jJ x.t1
 every:jJ x.every
abbrev HK.Ok(x:HK):Prop:=x.jb maxLen
structure Vr where
 a:Int
 b:Int
 deriving DecidableEq
def Vr.pv(x:Vr):PV:=.agg [.int .i64 x.a,.int .i64 x.b]
structure Vr.jb(M:Nat)(x:Vr):Prop where
 a:jJ x.a
 b:jJ x.b
abbrev Vr.Ok(x:Vr):Prop:=x.jb maxLen
structure HL where
 a:Int
 b:Int
 stop:Int
 deriving DecidableEq
def HL.pv(x:HL):PV:=.agg [.int .i64 x.a,.int .i64 x.b,.int .i64 x.stop]
structure HL.jb(M:Nat)(x:HL):Prop where
 a:jJ x.a
 b:jJ x.b
 stop:jJ x.stop
abbrev HL.Ok(x:HL):Prop:=x.jb maxLen
structure Path where
 a:Int
 b:Int
 bP:Int
 free:Bool
 deriving DecidableEq
def Path.pv(x:Path):PV:=.agg [.int .i64 x.a,.int .i64 x.b,.int .i64 x.bP,.bool x.free]
structure Path.jb(M:Nat)(x:Path):Prop where
 a:jJ x.a
 b:jJ x.b
 bP:jJ x.bP
abbrev Path.Ok(x:Path):Prop:=x.jb maxLen
structure aZ where
 id:Bytes
 y4:Int
 y5:Int
 y6:Int
 bP:Int
 y7:Int
 deriving DecidableEq
def aZ.pv(x:aZ):PV:=.agg [.str x.id,.int .i64 x.y4,.int .i64 x.y5,.int .i64 x.y6,.int .i64 x.bP,.int .i64 x.y7]
structure aZ.jb(M:Nat)(x:aZ):Prop where
 id:x.id.length≤M
 y4:jJ x.y4
 y5:jJ x.y5
 y6:jJ x.y6
 bP:jJ x.bP
 y7:jJ x.y7
abbrev aZ.Ok(x:aZ):Prop:=x.jb maxLen
structure nH where
 stops:List Stop
 ai:List aF
 Uc:List Vp
 Ud:List Vq
 MM:List HJ
 MN:List HK
 Ue:List Vr
 MO:List HL
 paths:List Path
 aM:List aZ
 bd:Int
 within:Int
 cap:Int
def nH.pv(x:nH):PV:=.agg [.rs 4 (x.stops.map Stop.pv),.rs 3 (x.ai.map aF.pv),.rs 10 (x.Uc.map Vp.pv),.rs 3 (x.Ud.map Vq.pv),.rs 5 (x.MM.map HJ.pv),.rs 4 (x.MN.map HK.pv),.rs 2 (x.Ue.map Vr.pv),.rs 3 (x.MO.map HL.pv),.rs 4 (x.paths.map Path.pv),.rs 6 (x.aM.map aZ.pv),.int .i64 x.bd,.int .i64 x.within,.int .i64 x.cap]
structure nH.jb(M:Nat)(x:nH):Prop where
 stops:x.stops.length≤M∧∀y∈x.stops,y.jb M
 ai:x.ai.length≤M∧∀y∈x.ai,y.jb M
 Uc:x.Uc.length≤M∧∀y∈x.Uc,y.jb M
 Ud:x.Ud.length≤M∧∀y∈x.Ud,y.jb M
 MM:x.MM.length≤M∧∀y∈x.MM,y.jb M
 MN:x.MN.length≤M∧∀y∈x.MN,y.jb M
 Ue:x.Ue.length≤M∧∀y∈x.Ue,y.jb M
 MO:x.MO.length≤M∧∀y∈x.MO,y.jb M
 paths:x.paths.length≤M∧∀y∈x.paths,y.jb M
 aM:x.aM.length≤M∧∀y∈x.aM,y.jb M
 bd:jJ x.bd
 within:jJ x.within
 cap:jJ x.cap
abbrev nH.Ok(x:nH):Prop:=x.jb maxLen
section
variable {P:Program} {M d:Nat} {t:TypeId} {a:List PV}
theorem fQ{fs:Array Field}(hu:P.underlying t=some (.struct fs))(h:fV M P (d+1) t a):wH P (fV M P d) fs.toList a:=by unfold fV at h;rw[hu]at h;exact h
theorem w9(hu:P.underlying t=some .string)(h:fV M P (d+1) t a):∃s:Bytes,a=[.str s]∧s.length≤M:=by unfold fV at h;rw[hu]at h;exact h
theorem bX{k:IntKind}(hu:P.underlying t=some (.int k))(h:fV M P (d+1) t a):∃n,a=[.int k n]∧(Lit.int k n).wf=true:=by unfold fV at h;rw[hu]at h;exact h
theorem lz(hu:P.underlying t=some .bool)(h:fV M P (d+1) t a):∃b,a=[.bool b]:=by unfold fV at h;rw[hu]at h;exact h
theorem zo{B:Type}{f:B→PV}{Q:B→Prop}:∀{es:List PV},(∀x∈es,∃s,x=f s∧Q s)→∃l:List B,es=l.map f∧∀s∈l,Q s
 |[],_=>⟨[],rfl,by simp⟩
 |x::es,h=>by
  obtain⟨s,hs,hq⟩:=h x (by simp);obtain⟨l,hl,SE⟩:=zo (es:=es) fun y hy=>h y (by simp[hy]);exact⟨s::l,by simp[hs,hl],fun y hy=>by
   rcases List.mem_cons.1 hy with rfl|hy
   ·exact hq
   ·exact SE y hy⟩
theorem mF{e:TypeId}{B:Type}{f:B→PV}{Q:B→Prop}(hu:P.underlying t=some (.slice e))(zy:aA P e=true){c:Nat}(hc:aO P e=c)(hB:∀qs,fV M P d e qs→∃s,zP true qs=f s∧Q s)(h:fV M P (d+1) t a):∃l:List B,a=[.rs c (l.map f)]∧l.length≤M∧∀s∈l,Q s:=by
 unfold fV at h;rw[hu]at h;obtain⟨es,rfl,hl,he⟩:=h;obtain⟨l,rfl,hq⟩:=zo (f:=f) (Q:=Q) (es:=es) fun x hx=>by obtain⟨qs,rfl,_,hs⟩:=he x hx;rw[zy];exact hB qs hs
 exact⟨l,by rw[hc],by simpa using hl,hq⟩
end
end Go.Ab.Tt
