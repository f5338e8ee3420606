import Derived.Test.YtmbihgjlollbeaaGreatAbTrod
namespace Go.Ab.Tt
abbrev iQ(n:Int):Prop:=(Lit.int .i64 n).wf=true
structure Stop where
 id:Bytes
 Bj:Int
 free:Bool
 change:Int
 deriving DecidableEq
def Stop.pv(x:Stop):PV:=.agg [.str x.id,.int .i64 x.Bj,.bool x.free,.int .i64 x.change]
structure Stop.eZ(M:Nat)(x:Stop):Prop where
 id:x.id.length≤M
 Bj:iQ x.Bj
 change:iQ x.change
abbrev Stop.Ok(x:Stop):Prop:=x.eZ maxLen
structure aT where
 id:Bytes
 mode:Int
 sO:Bool
 deriving DecidableEq
def aT.pv(x:aT):PV:=.agg [.str x.id,.int .i64 x.mode,.bool x.sO]
structure aT.eZ(M:Nat)(x:aT):Prop where
 id:x.id.length≤M
 mode:iQ x.mode
abbrev aT.Ok(x:aT):Prop:=x.eZ maxLen
structure pL where
 id:Bytes
 w0:Bool
 w1:Bool
 w2:Bool
 w3:Bool
 w4:Bool
 w5:Bool
 w6:Bool
 F9:Int
 Ga:Int
 deriving DecidableEq
def pL.pv(x:pL):PV:=.agg [.str x.id,.bool x.w0,.bool x.w1,.bool x.w2,.bool x.w3,.bool x.w4,.bool x.w5,.bool x.w6,.int .i64 x.F9,.int .i64 x.Ga]
structure pL.eZ(M:Nat)(x:pL):Prop where
 id:x.id.length≤M
 F9:iQ x.F9
 Ga:iQ x.Ga
abbrev pL.Ok(x:pL):Prop:=x.eZ maxLen
structure sG where
 xo:Int
 day:Int
 added:Bool
 deriving DecidableEq
def sG.pv(x:sG):PV:=.agg [.int .i64 x.xo,.int .i64 x.day,.bool x.added]
structure sG.eZ(M:Nat)(x:sG):Prop where
 xo:iQ x.xo
 day:iQ x.day
abbrev sG.Ok(x:sG):Prop:=x.eZ maxLen
structure aR where
 stop:Int
 arr:Int
 dep:Int
 ea:Bool
 bV:Bool
 deriving DecidableEq
def aR.pv(x:aR):PV:=.agg [.int .i64 x.stop,.int .i64 x.arr,.int .i64 x.dep,.bool x.ea,.bool x.bV]
structure aR.eZ(M:Nat)(x:aR):Prop where
 stop:iQ x.stop
 arr:iQ x.arr
 dep:iQ x.dep
abbrev aR.Ok(x:aR):Prop:=x.eZ maxLen
structure bL where
 id:Bytes
 fh:Int
 xo:Int
 free:Bool
 calls:List aR
 deriving DecidableEq
def bL.pv(x:bL):PV:=.agg [.str x.id,.int .i64 x.fh,.int .i64 x.xo,.bool x.free,.rs 5 (x.calls.map aR.pv)]
structure bL.eZ(M:Nat)(x:bL):Prop where
 id:x.id.length≤M
 fh:iQ x.fh
 xo:iQ x.xo
 calls:x.calls.length≤M∧∀y∈x.calls,y.eZ M
abbrev bL.Ok(x:bL):Prop:=x.eZ maxLen
structure bf where
 bR:Int
 t0:Int
 t1:Int
 every:Int
 deriving DecidableEq
def bf.pv(x:bf):PV:=.agg [.int .i64 x.bR,.int .i64 x.t0,.int .i64 x.t1,.int .i64 x.every]
structure bf.eZ(M:Nat)(x:bf):Prop where
 bR:iQ x.bR
 t0:iQ x.t0
 t1:iQ x.t1
 every:iQ x.every
abbrev bf.Ok(x:bf):Prop:=x.eZ maxLen
structure kS where
 a:Int
 b:Int
 deriving DecidableEq
def kS.pv(x:kS):PV:=.agg [.int .i64 x.a,.int .i64 x.b]
structure kS.eZ(M:Nat)(x:kS):Prop where
 a:iQ x.a
 b:iQ x.b
abbrev kS.Ok(x:kS):Prop:=x.eZ maxLen
structure iP where
 a:Int
 b:Int
 stop:Int
 deriving DecidableEq
def iP.pv(x:iP):PV:=.agg [.int .i64 x.a,.int .i64 x.b,.int .i64 x.stop]
structure iP.eZ(M:Nat)(x:iP):Prop where
 a:iQ x.a
 b:iQ x.b
 stop:iQ x.stop
abbrev iP.Ok(x:iP):Prop:=x.eZ maxLen
structure Path where
 a:Int
 b:Int
 jx:Int
 free:Bool
 deriving DecidableEq
def Path.pv(x:Path):PV:=.agg [.int .i64 x.a,.int .i64 x.b,.int .i64 x.jx,.bool x.free]
structure Path.eZ(M:Nat)(x:Path):Prop where
 a:iQ x.a
 b:iQ x.b
 jx:iQ x.jx
abbrev Path.Ok(x:Path):Prop:=x.eZ maxLen
structure aV where
 id:Bytes
 jy:Int
 cB:Int
 lS:Int
 jx:Int
 cq:Int
 deriving DecidableEq
def aV.pv(x:aV):PV:=.agg [.str x.id,.int .i64 x.jy,.int .i64 x.cB,.int .i64 x.lS,.int .i64 x.jx,.int .i64 x.cq]
structure aV.eZ(M:Nat)(x:aV):Prop where
 id:x.id.length≤M
 jy:iQ x.jy
 cB:iQ x.cB
 lS:iQ x.lS
 jx:iQ x.jx
 cq:iQ x.cq
abbrev aV.Ok(x:aV):Prop:=x.eZ maxLen
structure ak where
 stops:List Stop
 ar:List aT
 eM:List pL
 kQ:List sG
 ag:List bL
 cj:List bf
 sN:List kS
 lB:List iP
 paths:List Path
 ba:List aV
 bY:Int
 within:Int
 cap:Int
def ak.pv(x:ak):PV:=.agg [.rs 4 (x.stops.map Stop.pv),.rs 3 (x.ar.map aT.pv),.rs 10 (x.eM.map pL.pv),.rs 3 (x.kQ.map sG.pv),.rs 5 (x.ag.map bL.pv),.rs 4 (x.cj.map bf.pv),.rs 2 (x.sN.map kS.pv),.rs 3 (x.lB.map iP.pv),.rs 4 (x.paths.map Path.pv),.rs 6 (x.ba.map aV.pv),.int .i64 x.bY,.int .i64 x.within,.int .i64 x.cap]
structure ak.eZ(M:Nat)(x:ak):Prop where
 stops:x.stops.length≤M∧∀y∈x.stops,y.eZ M
 ar:x.ar.length≤M∧∀y∈x.ar,y.eZ M
 eM:x.eM.length≤M∧∀y∈x.eM,y.eZ M
 kQ:x.kQ.length≤M∧∀y∈x.kQ,y.eZ M
 ag:x.ag.length≤M∧∀y∈x.ag,y.eZ M
 cj:x.cj.length≤M∧∀y∈x.cj,y.eZ M
 sN:x.sN.length≤M∧∀y∈x.sN,y.eZ M
 lB:x.lB.length≤M∧∀y∈x.lB,y.eZ M
 paths:x.paths.length≤M∧∀y∈x.paths,y.eZ M
 ba:x.ba.length≤M∧∀y∈x.ba,y.eZ M
 bY:iQ x.bY
 within:iQ x.within
 cap:iQ x.cap
abbrev ak.Ok(x:ak):Prop:=x.eZ maxLen
section
variable {P:Program} {M d:Nat} {t:TypeId} {a:List PV}
theorem bF{fs:Array Field}(hu:P.underlying t=some (.struct fs))(h:eg M P (d+1) t a):ou P (eg M P d) fs.toList a:=by unfold eg at h;rw[hu]at h;exact h
theorem Tb{n:Nat}{e:TypeId}(hu:P.underlying t=some (.array n e))(h:eg M P (d+1) t a):UZ (eg M P d e) (aO P e) n a:=by unfold eg at h;rw[hu]at h;exact h
theorem yV(hu:P.underlying t=some .string)(h:eg M P (d+1) t a):∃s:Bytes,a=[.str s]∧s.length≤M:=by unfold eg at h;rw[hu]at h;exact h
theorem aM{k:IntKind}(hu:P.underlying t=some (.int k))(h:eg M P (d+1) t a):∃n,a=[.int k n]∧(Lit.int k n).wf=true:=by unfold eg at h;rw[hu]at h;exact h
theorem cH(hu:P.underlying t=some .bool)(h:eg M P (d+1) t a):∃b,a=[.bool b]:=by unfold eg at h;rw[hu]at h;exact h
theorem Du{B:Type}{f:B→PV}{Q:B→Prop}:∀{es:List PV},(∀x∈es,∃s,x=f s∧Q s)→∃l:List B,es=l.map f∧∀s∈l,Q s
 |[],_=>⟨[],rfl,by simp⟩
 |x::es,h=>by
  obtain⟨s,hs,hq⟩:=h x (by simp);obtain⟨l,hl,hql⟩:=Du (es:=es) fun y hy=>h y (by simp[hy]);exact⟨s::l,by simp[hs,hl],fun y hy=>by
   rcases aih.1 hy with rfl|hy
   ·exact hq
   ·exact hql y hy⟩
theorem dF{e:TypeId}{B:Type}{f:B→PV}{Q:B→Prop}(hu:P.underlying t=some (.slice e))(K2:ax P e=true){c:Nat}(hc:aO P e=c)(hB:∀qs,eg M P d e qs→∃s,yJ true qs=f s∧Q s)(h:eg M P (d+1) t a):∃l:List B,a=[.rs c (l.map f)]∧l.length≤M∧∀s∈l,Q s:=by
 unfold eg at h;rw[hu]at h;obtain⟨es,rfl,hl,he⟩:=h;obtain⟨l,rfl,hq⟩:=Du (f:=f) (Q:=Q) (es:=es) fun x hx=>by obtain⟨qs,rfl,_,hs⟩:=he x hx;rw[K2];exact hB qs hs
 exact⟨l,by rw[hc],by simpa using hl,hq⟩
end
end Go.Ab.Tt
