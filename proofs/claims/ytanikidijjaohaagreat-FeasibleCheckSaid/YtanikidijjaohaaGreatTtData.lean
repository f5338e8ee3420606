import Derived.Test.YtanikidijjaohaaGreatAbTrod
namespace Go.Ab.Tt
abbrev lT(n:Int):Prop:=(Lit.int .i64 n).wf=true
structure Stop where
 id:Bytes
 oK:Int
 free:Bool
 change:Int
 deriving DecidableEq
def Stop.pv(x:Stop):PV:=.agg [.str x.id,.int .i64 x.oK,.bool x.free,.int .i64 x.change]
structure Stop.jR(M:Nat)(x:Stop):Prop where
 id:x.id.length≤M
 oK:lT x.oK
 change:lT x.change
abbrev Stop.Ok(x:Stop):Prop:=x.jR maxLen
structure aG where
 id:Bytes
 mode:Int
 uC:Bool
 deriving DecidableEq
def aG.pv(x:aG):PV:=.agg [.str x.id,.int .i64 x.mode,.bool x.uC]
structure aG.jR(M:Nat)(x:aG):Prop where
 id:x.id.length≤M
 mode:lT x.mode
abbrev aG.Ok(x:aG):Prop:=x.jR maxLen
structure YT where
 id:Bytes
 w0:Bool
 w1:Bool
 w2:Bool
 w3:Bool
 w4:Bool
 w5:Bool
 w6:Bool
 aaY:Int
 aaZ:Int
 deriving DecidableEq
def YT.pv(x:YT):PV:=.agg [.str x.id,.bool x.w0,.bool x.w1,.bool x.w2,.bool x.w3,.bool x.w4,.bool x.w5,.bool x.w6,.int .i64 x.aaY,.int .i64 x.aaZ]
structure YT.jR(M:Nat)(x:YT):Prop where
 id:x.id.length≤M
 aaY:lT x.aaY
 aaZ:lT x.aaZ
abbrev YT.Ok(x:YT):Prop:=x.jR maxLen
structure YU where
 cal:Int
 day:Int
 added:Bool
 deriving DecidableEq
def YU.pv(x:YU):PV:=.agg [.int .i64 x.cal,.int .i64 x.day,.bool x.added]
structure YU.jR(M:Nat)(x:YU):Prop where
 cal:lT x.cal
 day:lT x.day
abbrev YU.Ok(x:YU):Prop:=x.jR maxLen
structure cK where
 stop:Int
 arr:Int
 dep:Int
 da:Bool
 bq:Bool
 deriving DecidableEq
def cK.pv(x:cK):PV:=.agg [.int .i64 x.stop,.int .i64 x.arr,.int .i64 x.dep,.bool x.da,.bool x.bq]
structure cK.jR(M:Nat)(x:cK):Prop where
 stop:lT x.stop
 arr:lT x.arr
 dep:lT x.dep
abbrev cK.Ok(x:cK):Prop:=x.jR maxLen
structure KP where
 id:Bytes
 ep:Int
 cal:Int
 free:Bool
 calls:List cK
 deriving DecidableEq
def KP.pv(x:KP):PV:=.agg [.str x.id,.int .i64 x.ep,.int .i64 x.cal,.bool x.free,.rs 5 (x.calls.map cK.pv)]
structure KP.jR(M:Nat)(x:KP):Prop where
 id:x.id.length≤M
 ep:lT x.ep
 cal:lT x.cal
 calls:x.calls.length≤M∧∀y∈x.calls,y.jR M
abbrev KP.Ok(x:KP):Prop:=x.jR maxLen
structure KQ where
 AE:Int
 t0:Int
 t1:Int
 every:Int
 deriving DecidableEq
def KQ.pv(x:KQ):PV:=.agg [.int .i64 x.AE,.int .i64 x.t0,.int .i64 x.t1,.int .i64 x.every]
structure KQ.jR(M:Nat)(x:KQ):Prop where
 AE:lT x.AE
 t0:lT x.t0
 t1:lT x.t1
 every:lT x.every
abbrev KQ.Ok(x:KQ):Prop:=x.jR maxLen
structure YV where
 a:Int
 b:Int
 deriving DecidableEq
def YV.pv(x:YV):PV:=.agg [.int .i64 x.a,.int .i64 x.b]
structure YV.jR(M:Nat)(x:YV):Prop where
 a:lT x.a
 b:lT x.b
abbrev YV.Ok(x:YV):Prop:=x.jR maxLen
structure KS where
 a:Int
 b:Int
 stop:Int
 deriving DecidableEq
def KS.pv(x:KS):PV:=.agg [.int .i64 x.a,.int .i64 x.b,.int .i64 x.stop]
structure KS.jR(M:Nat)(x:KS):Prop where
 a:lT x.a
 b:lT x.b
 stop:lT x.stop
abbrev KS.Ok(x:KS):Prop:=x.jR maxLen
structure Path where
 a:Int
 b:Int
 eS:Int
 free:Bool
 deriving DecidableEq
def Path.pv(x:Path):PV:=.agg [.int .i64 x.a,.int .i64 x.b,.int .i64 x.eS,.bool x.free]
structure Path.jR(M:Nat)(x:Path):Prop where
 a:lT x.a
 b:lT x.b
 eS:lT x.eS
abbrev Path.Ok(x:Path):Prop:=x.jR maxLen
structure aF where
 id:Bytes
 rz:Int
 cH:Int
 gw:Int
 eS:Int
 bM:Int
 deriving DecidableEq
def aF.pv(x:aF):PV:=.agg [.str x.id,.int .i64 x.rz,.int .i64 x.cH,.int .i64 x.gw,.int .i64 x.eS,.int .i64 x.bM]
structure aF.jR(M:Nat)(x:aF):Prop where
 id:x.id.length≤M
 rz:lT x.rz
 cH:lT x.cH
 gw:lT x.gw
 eS:lT x.eS
 bM:lT x.bM
abbrev aF.Ok(x:aF):Prop:=x.jR maxLen
structure pH where
 stops:List Stop
 av:List aG
 XH:List YT
 XI:List YU
 Qu:List KP
 Qv:List KQ
 XJ:List YV
 Qw:List KS
 paths:List Path
 aT:List aF
 bw:Int
 within:Int
 cap:Int
def pH.pv(x:pH):PV:=.agg [.rs 4 (x.stops.map Stop.pv),.rs 3 (x.av.map aG.pv),.rs 10 (x.XH.map YT.pv),.rs 3 (x.XI.map YU.pv),.rs 5 (x.Qu.map KP.pv),.rs 4 (x.Qv.map KQ.pv),.rs 2 (x.XJ.map YV.pv),.rs 3 (x.Qw.map KS.pv),.rs 4 (x.paths.map Path.pv),.rs 6 (x.aT.map aF.pv),.int .i64 x.bw,.int .i64 x.within,.int .i64 x.cap]
structure pH.jR(M:Nat)(x:pH):Prop where
 stops:x.stops.length≤M∧∀y∈x.stops,y.jR M
 av:x.av.length≤M∧∀y∈x.av,y.jR M
 XH:x.XH.length≤M∧∀y∈x.XH,y.jR M
 XI:x.XI.length≤M∧∀y∈x.XI,y.jR M
 Qu:x.Qu.length≤M∧∀y∈x.Qu,y.jR M
 Qv:x.Qv.length≤M∧∀y∈x.Qv,y.jR M
 XJ:x.XJ.length≤M∧∀y∈x.XJ,y.jR M
 Qw:x.Qw.length≤M∧∀y∈x.Qw,y.jR M
 paths:x.paths.length≤M∧∀y∈x.paths,y.jR M
 aT:x.aT.length≤M∧∀y∈x.aT,y.jR M
 bw:lT x.bw
 within:lT x.within
 cap:lT x.cap
abbrev pH.Ok(x:pH):Prop:=x.jR maxLen
section
variable {P:Program} {M d:Nat} {t:TypeId} {a:List PV}
theorem eV{fs:Array Field}(hu:P.underlying t=some (.struct fs))(h:gd M P (d+1) t a):wU P (gd M P d) fs.toList a:=by unfold gd at h;rw[hu]at h;exact h
theorem Ch(hu:P.underlying t=some .string)(h:gd M P (d+1) t a):∃s:Bytes,a=[.str s]∧s.length≤M:=by unfold gd at h;rw[hu]at h;exact h
theorem bG{k:IntKind}(hu:P.underlying t=some (.int k))(h:gd M P (d+1) t a):∃n,a=[.int k n]∧(Lit.int k n).wf=true:=by unfold gd at h;rw[hu]at h;exact h
theorem gk(hu:P.underlying t=some .bool)(h:gd M P (d+1) t a):∃b,a=[.bool b]:=by unfold gd at h;rw[hu]at h;exact h
theorem BH{B:Type}{f:B→PV}{Q:B→Prop}:∀{es:List PV},(∀x∈es,∃s,x=f s∧Q s)→∃l:List B,es=l.map f∧∀s∈l,Q s
 |[],_=>⟨[],rfl,by simp⟩
 |x::es,h=>by
  obtain⟨s,hs,hq⟩:=h x (by simp);obtain⟨l,hl,Y1⟩:=BH (es:=es) fun y hy=>h y (by simp[hy]);exact⟨s::l,by simp[hs,hl],fun y hy=>by
   rcases afh.1 hy with rfl|hy
   ·exact hq
   ·exact Y1 y hy⟩
theorem ot{e:TypeId}{B:Type}{f:B→PV}{Q:B→Prop}(hu:P.underlying t=some (.slice e))(I6:ay P e=true){c:Nat}(hc:aR P e=c)(hB:∀qs,gd M P d e qs→∃s,Bu true qs=f s∧Q s)(h:gd M P (d+1) t a):∃l:List B,a=[.rs c (l.map f)]∧l.length≤M∧∀s∈l,Q s:=by
 unfold gd at h;rw[hu]at h;obtain⟨es,rfl,hl,he⟩:=h;obtain⟨l,rfl,hq⟩:=BH (f:=f) (Q:=Q) (es:=es) fun x hx=>by obtain⟨qs,rfl,_,hs⟩:=he x hx;rw[I6];exact hB qs hs
 exact⟨l,by rw[hc],by simpa using hl,hq⟩
end
end Go.Ab.Tt
