import Derived.Test.YtcmhmlnkhmefbaaGreatAbTrod
namespace Go.Ab.Tt
abbrev jT(n:Int):Prop:=(Lit.int .i64 n).wf=true
structure Stop where
 id:Bytes
 sS:Int
 free:Bool
 change:Int
 deriving DecidableEq
def Stop.pv(x:Stop):PV:=.agg [.str x.id,.int .i64 x.sS,.bool x.free,.int .i64 x.change]
structure Stop.jq(M:Nat)(x:Stop):Prop where
 id:x.id.length≤M
 sS:jT x.sS
 change:jT x.change
abbrev Stop.Ok(x:Stop):Prop:=x.jq maxLen
structure av where
 id:Bytes
 mode:Int
 agd:Bool
 deriving DecidableEq
def av.pv(x:av):PV:=.agg [.str x.id,.int .i64 x.mode,.bool x.agd]
structure av.jq(M:Nat)(x:av):Prop where
 id:x.id.length≤M
 mode:jT x.mode
abbrev av.Ok(x:av):Prop:=x.jq maxLen
structure Wj where
 id:Bytes
 w0:Bool
 w1:Bool
 w2:Bool
 w3:Bool
 w4:Bool
 w5:Bool
 w6:Bool
 Yw:Int
 Yx:Int
 deriving DecidableEq
def Wj.pv(x:Wj):PV:=.agg [.str x.id,.bool x.w0,.bool x.w1,.bool x.w2,.bool x.w3,.bool x.w4,.bool x.w5,.bool x.w6,.int .i64 x.Yw,.int .i64 x.Yx]
structure Wj.jq(M:Nat)(x:Wj):Prop where
 id:x.id.length≤M
 Yw:jT x.Yw
 Yx:jT x.Yx
abbrev Wj.Ok(x:Wj):Prop:=x.jq maxLen
structure Wk where
 Yy:Int
 day:Int
 added:Bool
 deriving DecidableEq
def Wk.pv(x:Wk):PV:=.agg [.int .i64 x.Yy,.int .i64 x.day,.bool x.added]
structure Wk.jq(M:Nat)(x:Wk):Prop where
 Yy:jT x.Yy
 day:jT x.day
abbrev Wk.Ok(x:Wk):Prop:=x.jq maxLen
structure aw where
 stop:Int
 arr:Int
 dep:Int
 Ho:Bool
 Cn:Bool
 deriving DecidableEq
def aw.pv(x:aw):PV:=.agg [.int .i64 x.stop,.int .i64 x.arr,.int .i64 x.dep,.bool x.Ho,.bool x.Cn]
structure aw.jq(M:Nat)(x:aw):Prop where
 stop:jT x.stop
 arr:jT x.arr
 dep:jT x.dep
abbrev aw.Ok(x:aw):Prop:=x.jq maxLen
structure Ic where
 id:Bytes
 bj:Int
 Yy:Int
 free:Bool
 calls:List aw
 deriving DecidableEq
def Ic.pv(x:Ic):PV:=.agg [.str x.id,.int .i64 x.bj,.int .i64 x.Yy,.bool x.free,.rs 5 (x.calls.map aw.pv)]
structure Ic.jq(M:Nat)(x:Ic):Prop where
 id:x.id.length≤M
 bj:jT x.bj
 Yy:jT x.Yy
 calls:x.calls.length≤M∧∀y∈x.calls,y.jq M
abbrev Ic.Ok(x:Ic):Prop:=x.jq maxLen
structure Ie where
 dv:Int
 t0:Int
 t1:Int
 every:Int
 deriving DecidableEq
def Ie.pv(x:Ie):PV:=.agg [.int .i64 x.dv,.int .i64 x.t0,.int .i64 x.t1,.int .i64 x.every]
structure Ie.jq(M:Nat)(x:Ie):Prop where
 dv:jT x.dv
 t0:jT x.t0
 t1:jT x.t1
 every:jT x.every
abbrev Ie.Ok(x:Ie):Prop:=x.jq maxLen
structure Wl where
 a:Int
 b:Int
 deriving DecidableEq
def Wl.pv(x:Wl):PV:=.agg [.int .i64 x.a,.int .i64 x.b]
structure Wl.jq(M:Nat)(x:Wl):Prop where
 a:jT x.a
 b:jT x.b
abbrev Wl.Ok(x:Wl):Prop:=x.jq maxLen
structure Ig where
 a:Int
 b:Int
 stop:Int
 deriving DecidableEq
def Ig.pv(x:Ig):PV:=.agg [.int .i64 x.a,.int .i64 x.b,.int .i64 x.stop]
structure Ig.jq(M:Nat)(x:Ig):Prop where
 a:jT x.a
 b:jT x.b
 stop:jT x.stop
abbrev Ig.Ok(x:Ig):Prop:=x.jq maxLen
structure Path where
 a:Int
 b:Int
 bT:Int
 free:Bool
 deriving DecidableEq
def Path.pv(x:Path):PV:=.agg [.int .i64 x.a,.int .i64 x.b,.int .i64 x.bT,.bool x.free]
structure Path.jq(M:Nat)(x:Path):Prop where
 a:jT x.a
 b:jT x.b
 bT:jT x.bT
abbrev Path.Ok(x:Path):Prop:=x.jq maxLen
structure aR where
 id:Bytes
 zx:Int
 zy:Int
 zz:Int
 bT:Int
 zA:Int
 deriving DecidableEq
def aR.pv(x:aR):PV:=.agg [.str x.id,.int .i64 x.zx,.int .i64 x.zy,.int .i64 x.zz,.int .i64 x.bT,.int .i64 x.zA]
structure aR.jq(M:Nat)(x:aR):Prop where
 id:x.id.length≤M
 zx:jT x.zx
 zy:jT x.zy
 zz:jT x.zz
 bT:jT x.bT
 zA:jT x.zA
abbrev aR.Ok(x:aR):Prop:=x.jq maxLen
structure nW where
 stops:List Stop
 ab:List av
 U8:List Wj
 U9:List Wk
 Nu:List Ic
 Nv:List Ie
 Va:List Wl
 Nx:List Ig
 paths:List Path
 ar:List aR
 aO:Int
 within:Int
 cap:Int
def nW.pv(x:nW):PV:=.agg [.rs 4 (x.stops.map Stop.pv),.rs 3 (x.ab.map av.pv),.rs 10 (x.U8.map Wj.pv),.rs 3 (x.U9.map Wk.pv),.rs 5 (x.Nu.map Ic.pv),.rs 4 (x.Nv.map Ie.pv),.rs 2 (x.Va.map Wl.pv),.rs 3 (x.Nx.map Ig.pv),.rs 4 (x.paths.map Path.pv),.rs 6 (x.ar.map aR.pv),.int .i64 x.aO,.int .i64 x.within,.int .i64 x.cap]
structure nW.jq(M:Nat)(x:nW):Prop where
 stops:x.stops.length≤M∧∀y∈x.stops,y.jq M
 ab:x.ab.length≤M∧∀y∈x.ab,y.jq M
 U8:x.U8.length≤M∧∀y∈x.U8,y.jq M
 U9:x.U9.length≤M∧∀y∈x.U9,y.jq M
 Nu:x.Nu.length≤M∧∀y∈x.Nu,y.jq M
 Nv:x.Nv.length≤M∧∀y∈x.Nv,y.jq M
 Va:x.Va.length≤M∧∀y∈x.Va,y.jq M
 Nx:x.Nx.length≤M∧∀y∈x.Nx,y.jq M
 paths:x.paths.length≤M∧∀y∈x.paths,y.jq M
 ar:x.ar.length≤M∧∀y∈x.ar,y.jq M
 aO:jT x.aO
 within:jT x.within
 cap:jT x.cap
abbrev nW.Ok(x:nW):Prop:=x.jq maxLen
section
variable {P:Program} {M d:Nat} {t:TypeId} {a:List PV}
theorem fU{fs:Array Field}(hu:P.underlying t=some (.struct fs))(h:fZ M P (d+1) t a):xf P (fZ M P d) fs.toList a:=by unfold fZ at h;rw[hu]at h;exact h
theorem xF(hu:P.underlying t=some .string)(h:fZ M P (d+1) t a):∃s:Bytes,a=[.str s]∧s.length≤M:=by unfold fZ at h;rw[hu]at h;exact h
theorem bZ{k:IntKind}(hu:P.underlying t=some (.int k))(h:fZ M P (d+1) t a):∃n,a=[.int k n]∧(Lit.int k n).wf=true:=by unfold fZ at h;rw[hu]at h;exact h
theorem lN(hu:P.underlying t=some .bool)(h:fZ M P (d+1) t a):∃b,a=[.bool b]:=by unfold fZ at h;rw[hu]at h;exact h
theorem zR{B:Type}{f:B→PV}{Q:B→Prop}:∀{es:List PV},(∀x∈es,∃s,x=f s∧Q s)→∃l:List B,es=l.map f∧∀s∈l,Q s
 |[],_=>⟨[],rfl,by simp⟩
 |x::es,h=>by
  obtain⟨s,hs,hq⟩:=h x (by simp);obtain⟨l,hl,Tx⟩:=zR (es:=es) fun y hy=>h y (by simp[hy]);exact⟨s::l,by simp[hs,hl],fun y hy=>by
   rcases List.mem_cons.1 hy with rfl|hy
   ·exact hq
   ·exact Tx y hy⟩
theorem mT{e:TypeId}{B:Type}{f:B→PV}{Q:B→Prop}(hu:P.underlying t=some (.slice e))(Aa:aF P e=true){c:Nat}(hc:aT P e=c)(hB:∀qs,fZ M P d e qs→∃s,As true qs=f s∧Q s)(h:fZ M P (d+1) t a):∃l:List B,a=[.rs c (l.map f)]∧l.length≤M∧∀s∈l,Q s:=by
 unfold fZ at h;rw[hu]at h;obtain⟨es,rfl,hl,he⟩:=h;obtain⟨l,rfl,hq⟩:=zR (f:=f) (Q:=Q) (es:=es) fun x hx=>by obtain⟨qs,rfl,_,hs⟩:=he x hx;rw[Aa];exact hB qs hs
 exact⟨l,by rw[hc],by simpa using hl,hq⟩
end
end Go.Ab.Tt
