import Derived.Test.YtmbihgjlollbeaaGreatAbTrod
namespace Go.Ab.Tt
abbrev gO(n:Int):Prop:=(Lit.int .i64 n).wf=true
structure Stop where
 id:Bytes
 s5:Int
 free:Bool
 change:Int
 deriving DecidableEq
def Stop.pv(x:Stop):PV:=.agg [.str x.id,.int .i64 x.s5,.bool x.free,.int .i64 x.change]
structure Stop.eP(M:Nat)(x:Stop):Prop where
 id:x.id.length≤M
 s5:gO x.s5
 change:gO x.change
abbrev Stop.Ok(x:Stop):Prop:=x.eP maxLen
structure aV where
 id:Bytes
 mode:Int
 aaH:Bool
 deriving DecidableEq
def aV.pv(x:aV):PV:=.agg [.str x.id,.int .i64 x.mode,.bool x.aaH]
structure aV.eP(M:Nat)(x:aV):Prop where
 id:x.id.length≤M
 mode:gO x.mode
abbrev aV.Ok(x:aV):Prop:=x.eP maxLen
structure TG where
 id:Bytes
 w0:Bool
 w1:Bool
 w2:Bool
 w3:Bool
 w4:Bool
 w5:Bool
 w6:Bool
 ab8:Int
 ab9:Int
 deriving DecidableEq
def TG.pv(x:TG):PV:=.agg [.str x.id,.bool x.w0,.bool x.w1,.bool x.w2,.bool x.w3,.bool x.w4,.bool x.w5,.bool x.w6,.int .i64 x.ab8,.int .i64 x.ab9]
structure TG.eP(M:Nat)(x:TG):Prop where
 id:x.id.length≤M
 ab8:gO x.ab8
 ab9:gO x.ab9
abbrev TG.Ok(x:TG):Prop:=x.eP maxLen
structure Wz where
 YF:Int
 day:Int
 added:Bool
 deriving DecidableEq
def Wz.pv(x:Wz):PV:=.agg [.int .i64 x.YF,.int .i64 x.day,.bool x.added]
structure Wz.eP(M:Nat)(x:Wz):Prop where
 YF:gO x.YF
 day:gO x.day
abbrev Wz.Ok(x:Wz):Prop:=x.eP maxLen
structure gq where
 stop:Int
 arr:Int
 dep:Int
 Gy:Bool
 A6:Bool
 deriving DecidableEq
def gq.pv(x:gq):PV:=.agg [.int .i64 x.stop,.int .i64 x.arr,.int .i64 x.dep,.bool x.Gy,.bool x.A6]
structure gq.eP(M:Nat)(x:gq):Prop where
 stop:gO x.stop
 arr:gO x.arr
 dep:gO x.dep
abbrev gq.Ok(x:gq):Prop:=x.eP maxLen
structure Cu where
 id:Bytes
 lz:Int
 YF:Int
 free:Bool
 calls:List gq
 deriving DecidableEq
def Cu.pv(x:Cu):PV:=.agg [.str x.id,.int .i64 x.lz,.int .i64 x.YF,.bool x.free,.rs 5 (x.calls.map gq.pv)]
structure Cu.eP(M:Nat)(x:Cu):Prop where
 id:x.id.length≤M
 lz:gO x.lz
 YF:gO x.YF
 calls:x.calls.length≤M∧∀y∈x.calls,y.eP M
abbrev Cu.Ok(x:Cu):Prop:=x.eP maxLen
structure EZ where
 A7:Int
 t0:Int
 t1:Int
 every:Int
 deriving DecidableEq
def EZ.pv(x:EZ):PV:=.agg [.int .i64 x.A7,.int .i64 x.t0,.int .i64 x.t1,.int .i64 x.every]
structure EZ.eP(M:Nat)(x:EZ):Prop where
 A7:gO x.A7
 t0:gO x.t0
 t1:gO x.t1
 every:gO x.every
abbrev EZ.Ok(x:EZ):Prop:=x.eP maxLen
structure WC where
 a:Int
 b:Int
 deriving DecidableEq
def WC.pv(x:WC):PV:=.agg [.int .i64 x.a,.int .i64 x.b]
structure WC.eP(M:Nat)(x:WC):Prop where
 a:gO x.a
 b:gO x.b
abbrev WC.Ok(x:WC):Prop:=x.eP maxLen
structure E0 where
 a:Int
 b:Int
 stop:Int
 deriving DecidableEq
def E0.pv(x:E0):PV:=.agg [.int .i64 x.a,.int .i64 x.b,.int .i64 x.stop]
structure E0.eP(M:Nat)(x:E0):Prop where
 a:gO x.a
 b:gO x.b
 stop:gO x.stop
abbrev E0.Ok(x:E0):Prop:=x.eP maxLen
structure Path where
 a:Int
 b:Int
 js:Int
 free:Bool
 deriving DecidableEq
def Path.pv(x:Path):PV:=.agg [.int .i64 x.a,.int .i64 x.b,.int .i64 x.js,.bool x.free]
structure Path.eP(M:Nat)(x:Path):Prop where
 a:gO x.a
 b:gO x.b
 js:gO x.js
abbrev Path.Ok(x:Path):Prop:=x.eP maxLen
structure bJ where
 id:Bytes
 uy:Int
 nQ:Int
 Cf:Int
 js:Int
 uO:Int
 deriving DecidableEq
def bJ.pv(x:bJ):PV:=.agg [.str x.id,.int .i64 x.uy,.int .i64 x.nQ,.int .i64 x.Cf,.int .i64 x.js,.int .i64 x.uO]
structure bJ.eP(M:Nat)(x:bJ):Prop where
 id:x.id.length≤M
 uy:gO x.uy
 nQ:gO x.nQ
 Cf:gO x.Cf
 js:gO x.js
 uO:gO x.uO
abbrev bJ.Ok(x:bJ):Prop:=x.eP maxLen
structure fk where
 stops:List Stop
 aD:List aV
 Vt:List TG
 YR:List Wz
 KG:List Cu
 RG:List EZ
 YS:List WC
 RH:List E0
 paths:List Path
 ba:List bJ
 bY:Int
 within:Int
 cap:Int
def fk.pv(x:fk):PV:=.agg [.rs 4 (x.stops.map Stop.pv),.rs 3 (x.aD.map aV.pv),.rs 10 (x.Vt.map TG.pv),.rs 3 (x.YR.map Wz.pv),.rs 5 (x.KG.map Cu.pv),.rs 4 (x.RG.map EZ.pv),.rs 2 (x.YS.map WC.pv),.rs 3 (x.RH.map E0.pv),.rs 4 (x.paths.map Path.pv),.rs 6 (x.ba.map bJ.pv),.int .i64 x.bY,.int .i64 x.within,.int .i64 x.cap]
structure fk.eP(M:Nat)(x:fk):Prop where
 stops:x.stops.length≤M∧∀y∈x.stops,y.eP M
 aD:x.aD.length≤M∧∀y∈x.aD,y.eP M
 Vt:x.Vt.length≤M∧∀y∈x.Vt,y.eP M
 YR:x.YR.length≤M∧∀y∈x.YR,y.eP M
 KG:x.KG.length≤M∧∀y∈x.KG,y.eP M
 RG:x.RG.length≤M∧∀y∈x.RG,y.eP M
 YS:x.YS.length≤M∧∀y∈x.YS,y.eP M
 RH:x.RH.length≤M∧∀y∈x.RH,y.eP M
 paths:x.paths.length≤M∧∀y∈x.paths,y.eP M
 ba:x.ba.length≤M∧∀y∈x.ba,y.eP M
 bY:gO x.bY
 within:gO x.within
 cap:gO x.cap
abbrev fk.Ok(x:fk):Prop:=x.eP maxLen
section
variable {P:Program} {M d:Nat} {t:TypeId} {a:List PV}
theorem bx{fs:Array Field}(hu:P.underlying t=some (.struct fs))(h:dR M P (d+1) t a):lW P (dR M P d) fs.toList a:=by unfold dR at h;rw[hu]at h;exact h
theorem Tp{n:Nat}{e:TypeId}(hu:P.underlying t=some (.array n e))(h:dR M P (d+1) t a):Vf (dR M P d e) (aQ P e) n a:=by unfold dR at h;rw[hu]at h;exact h
theorem xe(hu:P.underlying t=some .string)(h:dR M P (d+1) t a):∃s:Bytes,a=[.str s]∧s.length≤M:=by unfold dR at h;rw[hu]at h;exact h
theorem aM{k:IntKind}(hu:P.underlying t=some (.int k))(h:dR M P (d+1) t a):∃n,a=[.int k n]∧(Lit.int k n).wf=true:=by unfold dR at h;rw[hu]at h;exact h
theorem cR(hu:P.underlying t=some .bool)(h:dR M P (d+1) t a):∃b,a=[.bool b]:=by unfold dR at h;rw[hu]at h;exact h
theorem Cm{B:Type}{f:B→PV}{Q:B→Prop}:∀{es:List PV},(∀x∈es,∃s,x=f s∧Q s)→∃l:List B,es=l.map f∧∀s∈l,Q s
 |[],_=>⟨[],rfl,by simp⟩
 |x::es,h=>by
  obtain⟨s,hs,hq⟩:=h x (by simp);obtain⟨l,hl,Z2⟩:=Cm (es:=es) fun y hy=>h y (by simp[hy]);exact⟨s::l,by simp[hs,hl],fun y hy=>by
   rcases abX.1 hy with rfl|hy
   ·exact hq
   ·exact Z2 y hy⟩
theorem dD{e:TypeId}{B:Type}{f:B→PV}{Q:B→Prop}(hu:P.underlying t=some (.slice e))(Kn:ax P e=true){c:Nat}(hc:aQ P e=c)(hB:∀qs,dR M P d e qs→∃s,ve true qs=f s∧Q s)(h:dR M P (d+1) t a):∃l:List B,a=[.rs c (l.map f)]∧l.length≤M∧∀s∈l,Q s:=by
 unfold dR at h;rw[hu]at h;obtain⟨es,rfl,hl,he⟩:=h;obtain⟨l,rfl,hq⟩:=Cm (f:=f) (Q:=Q) (es:=es) fun x hx=>by obtain⟨qs,rfl,_,hs⟩:=he x hx;rw[Kn];exact hB qs hs
 exact⟨l,by rw[hc],by simpa using hl,hq⟩
end
end Go.Ab.Tt
