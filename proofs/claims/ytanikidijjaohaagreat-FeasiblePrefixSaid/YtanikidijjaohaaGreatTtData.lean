import Derived.Test.YtanikidijjaohaaGreatAbTrod
namespace Go.Ab.Tt
abbrev ma(n:Int):Prop:=(Lit.int .i64 n).wf=true
structure Stop where
 id:Bytes
 pe:Int
 free:Bool
 change:Int
 deriving DecidableEq
def Stop.pv(x:Stop):PV:=.agg [.str x.id,.int .i64 x.pe,.bool x.free,.int .i64 x.change]
structure Stop.jQ(M:Nat)(x:Stop):Prop where
 id:x.id.length≤M
 pe:ma x.pe
 change:ma x.change
abbrev Stop.Ok(x:Stop):Prop:=x.jQ maxLen
structure aG where
 id:Bytes
 mode:Int
 l7:Bool
 deriving DecidableEq
def aG.pv(x:aG):PV:=.agg [.str x.id,.int .i64 x.mode,.bool x.l7]
structure aG.jQ(M:Nat)(x:aG):Prop where
 id:x.id.length≤M
 mode:ma x.mode
abbrev aG.Ok(x:aG):Prop:=x.jQ maxLen
structure ZW where
 id:Bytes
 w0:Bool
 w1:Bool
 w2:Bool
 w3:Bool
 w4:Bool
 w5:Bool
 w6:Bool
 abt:Int
 abu:Int
 deriving DecidableEq
def ZW.pv(x:ZW):PV:=.agg [.str x.id,.bool x.w0,.bool x.w1,.bool x.w2,.bool x.w3,.bool x.w4,.bool x.w5,.bool x.w6,.int .i64 x.abt,.int .i64 x.abu]
structure ZW.jQ(M:Nat)(x:ZW):Prop where
 id:x.id.length≤M
 abt:ma x.abt
 abu:ma x.abu
abbrev ZW.Ok(x:ZW):Prop:=x.jQ maxLen
structure ZX where
 cal:Int
 day:Int
 added:Bool
 deriving DecidableEq
def ZX.pv(x:ZX):PV:=.agg [.int .i64 x.cal,.int .i64 x.day,.bool x.added]
structure ZX.jQ(M:Nat)(x:ZX):Prop where
 cal:ma x.cal
 day:ma x.day
abbrev ZX.Ok(x:ZX):Prop:=x.jQ maxLen
structure cO where
 stop:Int
 arr:Int
 dep:Int
 dc:Bool
 bl:Bool
 deriving DecidableEq
def cO.pv(x:cO):PV:=.agg [.int .i64 x.stop,.int .i64 x.arr,.int .i64 x.dep,.bool x.dc,.bool x.bl]
structure cO.jQ(M:Nat)(x:cO):Prop where
 stop:ma x.stop
 arr:ma x.arr
 dep:ma x.dep
abbrev cO.Ok(x:cO):Prop:=x.jQ maxLen
structure LC where
 id:Bytes
 eC:Int
 cal:Int
 free:Bool
 calls:List cO
 deriving DecidableEq
def LC.pv(x:LC):PV:=.agg [.str x.id,.int .i64 x.eC,.int .i64 x.cal,.bool x.free,.rs 5 (x.calls.map cO.pv)]
structure LC.jQ(M:Nat)(x:LC):Prop where
 id:x.id.length≤M
 eC:ma x.eC
 cal:ma x.cal
 calls:x.calls.length≤M∧∀y∈x.calls,y.jQ M
abbrev LC.Ok(x:LC):Prop:=x.jQ maxLen
structure LD where
 Bc:Int
 t0:Int
 t1:Int
 every:Int
 deriving DecidableEq
def LD.pv(x:LD):PV:=.agg [.int .i64 x.Bc,.int .i64 x.t0,.int .i64 x.t1,.int .i64 x.every]
structure LD.jQ(M:Nat)(x:LD):Prop where
 Bc:ma x.Bc
 t0:ma x.t0
 t1:ma x.t1
 every:ma x.every
abbrev LD.Ok(x:LD):Prop:=x.jQ maxLen
structure ZY where
 a:Int
 b:Int
 deriving DecidableEq
def ZY.pv(x:ZY):PV:=.agg [.int .i64 x.a,.int .i64 x.b]
structure ZY.jQ(M:Nat)(x:ZY):Prop where
 a:ma x.a
 b:ma x.b
abbrev ZY.Ok(x:ZY):Prop:=x.jQ maxLen
structure LF where
 a:Int
 b:Int
 stop:Int
 deriving DecidableEq
def LF.pv(x:LF):PV:=.agg [.int .i64 x.a,.int .i64 x.b,.int .i64 x.stop]
structure LF.jQ(M:Nat)(x:LF):Prop where
 a:ma x.a
 b:ma x.b
 stop:ma x.stop
abbrev LF.Ok(x:LF):Prop:=x.jQ maxLen
structure Path where
 a:Int
 b:Int
 fa:Int
 free:Bool
 deriving DecidableEq
def Path.pv(x:Path):PV:=.agg [.int .i64 x.a,.int .i64 x.b,.int .i64 x.fa,.bool x.free]
structure Path.jQ(M:Nat)(x:Path):Prop where
 a:ma x.a
 b:ma x.b
 fa:ma x.fa
abbrev Path.Ok(x:Path):Prop:=x.jQ maxLen
structure aH where
 id:Bytes
 rZ:Int
 cE:Int
 gI:Int
 fa:Int
 bn:Int
 deriving DecidableEq
def aH.pv(x:aH):PV:=.agg [.str x.id,.int .i64 x.rZ,.int .i64 x.cE,.int .i64 x.gI,.int .i64 x.fa,.int .i64 x.bn]
structure aH.jQ(M:Nat)(x:aH):Prop where
 id:x.id.length≤M
 rZ:ma x.rZ
 cE:ma x.cE
 gI:ma x.gI
 fa:ma x.fa
 bn:ma x.bn
abbrev aH.Ok(x:aH):Prop:=x.jQ maxLen
structure qe where
 stops:List Stop
 au:List aG
 YP:List ZW
 YQ:List ZX
 Rj:List LC
 Rk:List LD
 YR:List ZY
 Rl:List LF
 paths:List Path
 aR:List aH
 bu:Int
 within:Int
 cap:Int
def qe.pv(x:qe):PV:=.agg [.rs 4 (x.stops.map Stop.pv),.rs 3 (x.au.map aG.pv),.rs 10 (x.YP.map ZW.pv),.rs 3 (x.YQ.map ZX.pv),.rs 5 (x.Rj.map LC.pv),.rs 4 (x.Rk.map LD.pv),.rs 2 (x.YR.map ZY.pv),.rs 3 (x.Rl.map LF.pv),.rs 4 (x.paths.map Path.pv),.rs 6 (x.aR.map aH.pv),.int .i64 x.bu,.int .i64 x.within,.int .i64 x.cap]
structure qe.jQ(M:Nat)(x:qe):Prop where
 stops:x.stops.length≤M∧∀y∈x.stops,y.jQ M
 au:x.au.length≤M∧∀y∈x.au,y.jQ M
 YP:x.YP.length≤M∧∀y∈x.YP,y.jQ M
 YQ:x.YQ.length≤M∧∀y∈x.YQ,y.jQ M
 Rj:x.Rj.length≤M∧∀y∈x.Rj,y.jQ M
 Rk:x.Rk.length≤M∧∀y∈x.Rk,y.jQ M
 YR:x.YR.length≤M∧∀y∈x.YR,y.jQ M
 Rl:x.Rl.length≤M∧∀y∈x.Rl,y.jQ M
 paths:x.paths.length≤M∧∀y∈x.paths,y.jQ M
 aR:x.aR.length≤M∧∀y∈x.aR,y.jQ M
 bu:ma x.bu
 within:ma x.within
 cap:ma x.cap
abbrev qe.Ok(x:qe):Prop:=x.jQ maxLen
section
variable {P:Program} {M d:Nat} {t:TypeId} {a:List PV}
theorem fb{fs:Array Field}(hu:P.underlying t=some (.struct fs))(h:gd M P (d+1) t a):xh P (gd M P d) fs.toList a:=by unfold gd at h;rw[hu]at h;exact h
theorem CW(hu:P.underlying t=some .string)(h:gd M P (d+1) t a):∃s:Bytes,a=[.str s]∧s.length≤M:=by unfold gd at h;rw[hu]at h;exact h
theorem bG{k:IntKind}(hu:P.underlying t=some (.int k))(h:gd M P (d+1) t a):∃n,a=[.int k n]∧(Lit.int k n).wf=true:=by unfold gd at h;rw[hu]at h;exact h
theorem gA(hu:P.underlying t=some .bool)(h:gd M P (d+1) t a):∃b,a=[.bool b]:=by unfold gd at h;rw[hu]at h;exact h
theorem Cf{B:Type}{f:B→PV}{Q:B→Prop}:∀{es:List PV},(∀x∈es,∃s,x=f s∧Q s)→∃l:List B,es=l.map f∧∀s∈l,Q s
 |[],_=>⟨[],rfl,by simp⟩
 |x::es,h=>by
  obtain⟨s,hs,hq⟩:=h x (by simp);obtain⟨l,hl,WX⟩:=Cf (es:=es) fun y hy=>h y (by simp[hy]);exact⟨s::l,by simp[hs,hl],fun y hy=>by
   rcases List.mem_cons.1 hy with rfl|hy
   ·exact hq
   ·exact WX y hy⟩
theorem oP{e:TypeId}{B:Type}{f:B→PV}{Q:B→Prop}(hu:P.underlying t=some (.slice e))(Cp:ao P e=true){c:Nat}(hc:aP P e=c)(hB:∀qs,gd M P d e qs→∃s,AX true qs=f s∧Q s)(h:gd M P (d+1) t a):∃l:List B,a=[.rs c (l.map f)]∧l.length≤M∧∀s∈l,Q s:=by
 unfold gd at h;rw[hu]at h;obtain⟨es,rfl,hl,he⟩:=h;obtain⟨l,rfl,hq⟩:=Cf (f:=f) (Q:=Q) (es:=es) fun x hx=>by obtain⟨qs,rfl,_,hs⟩:=he x hx;rw[Cp];exact hB qs hs
 exact⟨l,by rw[hc],by simpa using hl,hq⟩
end
end Go.Ab.Tt
