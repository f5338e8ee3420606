import Derived.Test.YtcmhmlnkhmefbaaGreatAbTrod
namespace Go.Ab.Tt
abbrev j9(n:Int):Prop:=(Lit.int .i64 n).wf=true
structure Stop where
 id:Bytes
 tt:Int
 free:Bool
 change:Int
 deriving DecidableEq
def Stop.pv(x:Stop):PV:=.agg [.str x.id,.int .i64 x.tt,.bool x.free,.int .i64 x.change]
structure Stop.jo(M:Nat)(x:Stop):Prop where
 id:x.id.length≤M
 tt:j9 x.tt
 change:j9 x.change
abbrev Stop.Ok(x:Stop):Prop:=x.jo maxLen
structure ax where
 id:Bytes
 mode:Int
 ahz:Bool
 deriving DecidableEq
def ax.pv(x:ax):PV:=.agg [.str x.id,.int .i64 x.mode,.bool x.ahz]
structure ax.jo(M:Nat)(x:ax):Prop where
 id:x.id.length≤M
 mode:j9 x.mode
abbrev ax.Ok(x:ax):Prop:=x.jo maxLen
structure Yr where
 id:Bytes
 w0:Bool
 w1:Bool
 w2:Bool
 w3:Bool
 w4:Bool
 w5:Bool
 w6:Bool
 aas:Int
 aat:Int
 deriving DecidableEq
def Yr.pv(x:Yr):PV:=.agg [.str x.id,.bool x.w0,.bool x.w1,.bool x.w2,.bool x.w3,.bool x.w4,.bool x.w5,.bool x.w6,.int .i64 x.aas,.int .i64 x.aat]
structure Yr.jo(M:Nat)(x:Yr):Prop where
 id:x.id.length≤M
 aas:j9 x.aas
 aat:j9 x.aat
abbrev Yr.Ok(x:Yr):Prop:=x.jo maxLen
structure Ys where
 cal:Int
 day:Int
 added:Bool
 deriving DecidableEq
def Ys.pv(x:Ys):PV:=.agg [.int .i64 x.cal,.int .i64 x.day,.bool x.added]
structure Ys.jo(M:Nat)(x:Ys):Prop where
 cal:j9 x.cal
 day:j9 x.day
abbrev Ys.Ok(x:Ys):Prop:=x.jo maxLen
structure ao where
 stop:Int
 arr:Int
 dep:Int
 yf:Bool
 sV:Bool
 deriving DecidableEq
def ao.pv(x:ao):PV:=.agg [.int .i64 x.stop,.int .i64 x.arr,.int .i64 x.dep,.bool x.yf,.bool x.sV]
structure ao.jo(M:Nat)(x:ao):Prop where
 stop:j9 x.stop
 arr:j9 x.arr
 dep:j9 x.dep
abbrev ao.Ok(x:ao):Prop:=x.jo maxLen
structure Ju where
 id:Bytes
 bd:Int
 cal:Int
 free:Bool
 calls:List ao
 deriving DecidableEq
def Ju.pv(x:Ju):PV:=.agg [.str x.id,.int .i64 x.bd,.int .i64 x.cal,.bool x.free,.rs 5 (x.calls.map ao.pv)]
structure Ju.jo(M:Nat)(x:Ju):Prop where
 id:x.id.length≤M
 bd:j9 x.bd
 cal:j9 x.cal
 calls:x.calls.length≤M∧∀y∈x.calls,y.jo M
abbrev Ju.Ok(x:Ju):Prop:=x.jo maxLen
structure Jv where
 cX:Int
 t0:Int
 t1:Int
 every:Int
 deriving DecidableEq
def Jv.pv(x:Jv):PV:=.agg [.int .i64 x.cX,.int .i64 x.t0,.int .i64 x.t1,.int .i64 x.every]
structure Jv.jo(M:Nat)(x:Jv):Prop where
 cX:j9 x.cX
 t0:j9 x.t0
 t1:j9 x.t1
 every:j9 x.every
abbrev Jv.Ok(x:Jv):Prop:=x.jo maxLen
structure Yt where
 a:Int
 b:Int
 deriving DecidableEq
def Yt.pv(x:Yt):PV:=.agg [.int .i64 x.a,.int .i64 x.b]
structure Yt.jo(M:Nat)(x:Yt):Prop where
 a:j9 x.a
 b:j9 x.b
abbrev Yt.Ok(x:Yt):Prop:=x.jo maxLen
structure Jw where
 a:Int
 b:Int
 stop:Int
 deriving DecidableEq
def Jw.pv(x:Jw):PV:=.agg [.int .i64 x.a,.int .i64 x.b,.int .i64 x.stop]
structure Jw.jo(M:Nat)(x:Jw):Prop where
 a:j9 x.a
 b:j9 x.b
 stop:j9 x.stop
abbrev Jw.Ok(x:Jw):Prop:=x.jo maxLen
structure Path where
 a:Int
 b:Int
 bm:Int
 free:Bool
 deriving DecidableEq
def Path.pv(x:Path):PV:=.agg [.int .i64 x.a,.int .i64 x.b,.int .i64 x.bm,.bool x.free]
structure Path.jo(M:Nat)(x:Path):Prop where
 a:j9 x.a
 b:j9 x.b
 bm:j9 x.bm
abbrev Path.Ok(x:Path):Prop:=x.jo maxLen
structure aS where
 id:Bytes
 Aj:Int
 Ak:Int
 Al:Int
 bm:Int
 Am:Int
 deriving DecidableEq
def aS.pv(x:aS):PV:=.agg [.str x.id,.int .i64 x.Aj,.int .i64 x.Ak,.int .i64 x.Al,.int .i64 x.bm,.int .i64 x.Am]
structure aS.jo(M:Nat)(x:aS):Prop where
 id:x.id.length≤M
 Aj:j9 x.Aj
 Ak:j9 x.Ak
 Al:j9 x.Al
 bm:j9 x.bm
 Am:j9 x.Am
abbrev aS.Ok(x:aS):Prop:=x.jo maxLen
structure oK where
 stops:List Stop
 af:List ax
 W7:List Yr
 W8:List Ys
 Pf:List Ju
 Pg:List Jv
 W9:List Yt
 Ph:List Jw
 paths:List Path
 au:List aS
 aR:Int
 within:Int
 cap:Int
def oK.pv(x:oK):PV:=.agg [.rs 4 (x.stops.map Stop.pv),.rs 3 (x.af.map ax.pv),.rs 10 (x.W7.map Yr.pv),.rs 3 (x.W8.map Ys.pv),.rs 5 (x.Pf.map Ju.pv),.rs 4 (x.Pg.map Jv.pv),.rs 2 (x.W9.map Yt.pv),.rs 3 (x.Ph.map Jw.pv),.rs 4 (x.paths.map Path.pv),.rs 6 (x.au.map aS.pv),.int .i64 x.aR,.int .i64 x.within,.int .i64 x.cap]
structure oK.jo(M:Nat)(x:oK):Prop where
 stops:x.stops.length≤M∧∀y∈x.stops,y.jo M
 af:x.af.length≤M∧∀y∈x.af,y.jo M
 W7:x.W7.length≤M∧∀y∈x.W7,y.jo M
 W8:x.W8.length≤M∧∀y∈x.W8,y.jo M
 Pf:x.Pf.length≤M∧∀y∈x.Pf,y.jo M
 Pg:x.Pg.length≤M∧∀y∈x.Pg,y.jo M
 W9:x.W9.length≤M∧∀y∈x.W9,y.jo M
 Ph:x.Ph.length≤M∧∀y∈x.Ph,y.jo M
 paths:x.paths.length≤M∧∀y∈x.paths,y.jo M
 au:x.au.length≤M∧∀y∈x.au,y.jo M
 aR:j9 x.aR
 within:j9 x.within
 cap:j9 x.cap
abbrev oK.Ok(x:oK):Prop:=x.jo maxLen
section
variable {P:Program} {M d:Nat} {t:TypeId} {a:List PV}
theorem fZ{fs:Array Field}(hu:P.underlying t=some (.struct fs))(h:gd M P (d+1) t a):xM P (gd M P d) fs.toList a:=by unfold gd at h;rw[hu]at h;exact h
theorem yu(hu:P.underlying t=some .string)(h:gd M P (d+1) t a):∃s:Bytes,a=[.str s]∧s.length≤M:=by unfold gd at h;rw[hu]at h;exact h
theorem ca{k:IntKind}(hu:P.underlying t=some (.int k))(h:gd M P (d+1) t a):∃n,a=[.int k n]∧(Lit.int k n).wf=true:=by unfold gd at h;rw[hu]at h;exact h
theorem l9(hu:P.underlying t=some .bool)(h:gd M P (d+1) t a):∃b,a=[.bool b]:=by unfold gd at h;rw[hu]at h;exact h
theorem AE{B:Type}{f:B→PV}{Q:B→Prop}:∀{es:List PV},(∀x∈es,∃s,x=f s∧Q s)→∃l:List B,es=l.map f∧∀s∈l,Q s
 |[],_=>⟨[],rfl,by simp⟩
 |x::es,h=>by
  obtain⟨s,hs,hq⟩:=h x (by simp);obtain⟨l,hl,Vm⟩:=AE (es:=es) fun y hy=>h y (by simp[hy]);exact⟨s::l,by simp[hs,hl],fun y hy=>by
   rcases List.mem_cons.1 hy with rfl|hy
   ·exact hq
   ·exact Vm y hy⟩
theorem ma{e:TypeId}{B:Type}{f:B→PV}{Q:B→Prop}(hu:P.underlying t=some (.slice e))(AO:aF P e=true){c:Nat}(hc:aU P e=c)(hB:∀qs,gd M P d e qs→∃s,Bd true qs=f s∧Q s)(h:gd M P (d+1) t a):∃l:List B,a=[.rs c (l.map f)]∧l.length≤M∧∀s∈l,Q s:=by
 unfold gd at h;rw[hu]at h;obtain⟨es,rfl,hl,he⟩:=h;obtain⟨l,rfl,hq⟩:=AE (f:=f) (Q:=Q) (es:=es) fun x hx=>by obtain⟨qs,rfl,_,hs⟩:=he x hx;rw[AO];exact hB qs hs
 exact⟨l,by rw[hc],by simpa using hl,hq⟩
end
end Go.Ab.Tt
