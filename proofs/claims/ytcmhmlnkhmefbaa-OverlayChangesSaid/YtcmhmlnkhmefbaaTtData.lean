import Derived.Test.YtcmhmlnkhmefbaaAbTrod
namespace Go.Ab.Tt
abbrev ja(n:Int):Prop:=(Lit.int .i64 n).wf=true
structure Stop where
 id:Bytes
 Hb:Int
 free:Bool
 change:Int
 deriving DecidableEq
def Stop.pv(x:Stop):PV:=.agg [.str x.id,.int .i64 x.Hb,.bool x.free,.int .i64 x.change]
structure Stop.iQ(M:Nat)(x:Stop):Prop where
 id:x.id.length≤M
 Hb:ja x.Hb
 change:ja x.change
abbrev Stop.Ok(x:Stop):Prop:=x.iQ maxLen
structure aW where
 id:Bytes
 mode:Int
 acD:Bool
 deriving DecidableEq
def aW.pv(x:aW):PV:=.agg [.str x.id,.int .i64 x.mode,.bool x.acD]
structure aW.iQ(M:Nat)(x:aW):Prop where
 id:x.id.length≤M
 mode:ja x.mode
abbrev aW.Ok(x:aW):Prop:=x.iQ maxLen
structure SI where
 id:Bytes
 w0:Bool
 w1:Bool
 w2:Bool
 w3:Bool
 w4:Bool
 w5:Bool
 w6:Bool
 Uy:Int
 Uz:Int
 deriving DecidableEq
def SI.pv(x:SI):PV:=.agg [.str x.id,.bool x.w0,.bool x.w1,.bool x.w2,.bool x.w3,.bool x.w4,.bool x.w5,.bool x.w6,.int .i64 x.Uy,.int .i64 x.Uz]
structure SI.iQ(M:Nat)(x:SI):Prop where
 id:x.id.length≤M
 Uy:ja x.Uy
 Uz:ja x.Uz
abbrev SI.Ok(x:SI):Prop:=x.iQ maxLen
structure SJ where
 UA:Int
 day:Int
 added:Bool
 deriving DecidableEq
def SJ.pv(x:SJ):PV:=.agg [.int .i64 x.UA,.int .i64 x.day,.bool x.added]
structure SJ.iQ(M:Nat)(x:SJ):Prop where
 UA:ja x.UA
 day:ja x.day
abbrev SJ.Ok(x:SJ):Prop:=x.iQ maxLen
structure an where
 stop:Int
 arr:Int
 dep:Int
 EP:Bool
 zW:Bool
 deriving DecidableEq
def an.pv(x:an):PV:=.agg [.int .i64 x.stop,.int .i64 x.arr,.int .i64 x.dep,.bool x.EP,.bool x.zW]
structure an.iQ(M:Nat)(x:an):Prop where
 stop:ja x.stop
 arr:ja x.arr
 dep:ja x.dep
abbrev an.Ok(x:an):Prop:=x.iQ maxLen
structure Fk where
 id:Bytes
 bd:Int
 UA:Int
 free:Bool
 calls:List an
 deriving DecidableEq
def Fk.pv(x:Fk):PV:=.agg [.str x.id,.int .i64 x.bd,.int .i64 x.UA,.bool x.free,.rs 5 (x.calls.map an.pv)]
structure Fk.iQ(M:Nat)(x:Fk):Prop where
 id:x.id.length≤M
 bd:ja x.bd
 UA:ja x.UA
 calls:x.calls.length≤M∧∀y∈x.calls,y.iQ M
abbrev Fk.Ok(x:Fk):Prop:=x.iQ maxLen
structure Fl where
 dA:Int
 t0:Int
 t1:Int
 every:Int
 deriving DecidableEq
def Fl.pv(x:Fl):PV:=.agg [.int .i64 x.dA,.int .i64 x.t0,.int .i64 x.t1,.int .i64 x.every]
structure Fl.iQ(M:Nat)(x:Fl):Prop where
 dA:ja x.dA
 t0:ja x.t0
 t1:ja x.t1
 every:ja x.every
abbrev Fl.Ok(x:Fl):Prop:=x.iQ maxLen
structure SK where
 a:Int
 b:Int
 deriving DecidableEq
def SK.pv(x:SK):PV:=.agg [.int .i64 x.a,.int .i64 x.b]
structure SK.iQ(M:Nat)(x:SK):Prop where
 a:ja x.a
 b:ja x.b
abbrev SK.Ok(x:SK):Prop:=x.iQ maxLen
structure Fm where
 a:Int
 b:Int
 stop:Int
 deriving DecidableEq
def Fm.pv(x:Fm):PV:=.agg [.int .i64 x.a,.int .i64 x.b,.int .i64 x.stop]
structure Fm.iQ(M:Nat)(x:Fm):Prop where
 a:ja x.a
 b:ja x.b
 stop:ja x.stop
abbrev Fm.Ok(x:Fm):Prop:=x.iQ maxLen
structure Path where
 a:Int
 b:Int
 bP:Int
 free:Bool
 deriving DecidableEq
def Path.pv(x:Path):PV:=.agg [.int .i64 x.a,.int .i64 x.b,.int .i64 x.bP,.bool x.free]
structure Path.iQ(M:Nat)(x:Path):Prop where
 a:ja x.a
 b:ja x.b
 bP:ja x.bP
abbrev Path.Ok(x:Path):Prop:=x.iQ maxLen
structure bX where
 id:Bytes
 Bv:Int
 Bw:Int
 Bx:Int
 bP:Int
 Bz:Int
 deriving DecidableEq
def bX.pv(x:bX):PV:=.agg [.str x.id,.int .i64 x.Bv,.int .i64 x.Bw,.int .i64 x.Bx,.int .i64 x.bP,.int .i64 x.Bz]
structure bX.iQ(M:Nat)(x:bX):Prop where
 id:x.id.length≤M
 Bv:ja x.Bv
 Bw:ja x.Bw
 Bx:ja x.Bx
 bP:ja x.bP
 Bz:ja x.Bz
abbrev bX.Ok(x:bX):Prop:=x.iQ maxLen
structure mj where
 stops:List Stop
 ao:List aW
 Rm:List SI
 Rn:List SJ
 J5:List Fk
 J6:List Fl
 Rp:List SK
 J7:List Fm
 paths:List Path
 aU:List bX
 cM:Int
 within:Int
 cap:Int
def mj.pv(x:mj):PV:=.agg [.rs 4 (x.stops.map Stop.pv),.rs 3 (x.ao.map aW.pv),.rs 10 (x.Rm.map SI.pv),.rs 3 (x.Rn.map SJ.pv),.rs 5 (x.J5.map Fk.pv),.rs 4 (x.J6.map Fl.pv),.rs 2 (x.Rp.map SK.pv),.rs 3 (x.J7.map Fm.pv),.rs 4 (x.paths.map Path.pv),.rs 6 (x.aU.map bX.pv),.int .i64 x.cM,.int .i64 x.within,.int .i64 x.cap]
structure mj.iQ(M:Nat)(x:mj):Prop where
 stops:x.stops.length≤M∧∀y∈x.stops,y.iQ M
 ao:x.ao.length≤M∧∀y∈x.ao,y.iQ M
 Rm:x.Rm.length≤M∧∀y∈x.Rm,y.iQ M
 Rn:x.Rn.length≤M∧∀y∈x.Rn,y.iQ M
 J5:x.J5.length≤M∧∀y∈x.J5,y.iQ M
 J6:x.J6.length≤M∧∀y∈x.J6,y.iQ M
 Rp:x.Rp.length≤M∧∀y∈x.Rp,y.iQ M
 J7:x.J7.length≤M∧∀y∈x.J7,y.iQ M
 paths:x.paths.length≤M∧∀y∈x.paths,y.iQ M
 aU:x.aU.length≤M∧∀y∈x.aU,y.iQ M
 cM:ja x.cM
 within:ja x.within
 cap:ja x.cap
abbrev mj.Ok(x:mj):Prop:=x.iQ maxLen
section
variable {P:Program} {M d:Nat} {t:TypeId} {a:List PV}
theorem gj{fs:Array Field}(hu:P.underlying t=some (.struct fs))(h:fP M P (d+1) t a):vK P (fP M P d) fs.toList a:=by unfold fP at h;rw[hu]at h;exact h
theorem xT(hu:P.underlying t=some .string)(h:fP M P (d+1) t a):∃s:Bytes,a=[.str s]∧s.length≤M:=by unfold fP at h;rw[hu]at h;exact h
theorem dg{k:IntKind}(hu:P.underlying t=some (.int k))(h:fP M P (d+1) t a):∃n,a=[.int k n]∧(Lit.int k n).wf=true:=by unfold fP at h;rw[hu]at h;exact h
theorem lB(hu:P.underlying t=some .bool)(h:fP M P (d+1) t a):∃b,a=[.bool b]:=by unfold fP at h;rw[hu]at h;exact h
theorem xp{B:Type}{f:B→PV}{Q:B→Prop}:∀{es:List PV},(∀x∈es,∃s,x=f s∧Q s)→∃l:List B,es=l.map f∧∀s∈l,Q s
 |[],_=>⟨[],rfl,by simp⟩
 |x::es,h=>by
  obtain⟨s,hs,hq⟩:=h x (by simp);obtain⟨l,hl,PM⟩:=xp (es:=es) fun y hy=>h y (by simp[hy]);exact⟨s::l,by simp[hs,hl],fun y hy=>by
   rcases List.mem_cons.1 hy with rfl|hy
   ·exact hq
   ·exact PM y hy⟩
theorem ni{e:TypeId}{B:Type}{f:B→PV}{Q:B→Prop}(hu:P.underlying t=some (.slice e))(xB:aq P e=true){c:Nat}(hc:aH P e=c)(hB:∀qs,fP M P d e qs→∃s,Ar true qs=f s∧Q s)(h:fP M P (d+1) t a):∃l:List B,a=[.rs c (l.map f)]∧l.length≤M∧∀s∈l,Q s:=by
 unfold fP at h;rw[hu]at h;obtain⟨es,rfl,hl,he⟩:=h;obtain⟨l,rfl,hq⟩:=xp (f:=f) (Q:=Q) (es:=es) fun x hx=>by obtain⟨qs,rfl,_,hs⟩:=he x hx;rw[xB];exact hB qs hs
 exact⟨l,by rw[hc],by simpa using hl,hq⟩
end
end Go.Ab.Tt
