import Derived.Test.YtcmhmlnkhmefbaaGreatAbTrod
namespace Go.Ab.Tt
abbrev j9(n:Int):Prop:=(Lit.int .i64 n).wf=true
structure Stop where
 id:Bytes
 tr:Int
 free:Bool
 change:Int
 deriving DecidableEq
def Stop.pv(x:Stop):PV:=.agg [.str x.id,.int .i64 x.tr,.bool x.free,.int .i64 x.change]
structure Stop.jx(M:Nat)(x:Stop):Prop where
 id:x.id.length≤M
 tr:j9 x.tr
 change:j9 x.change
abbrev Stop.Ok(x:Stop):Prop:=x.jx maxLen
structure ax where
 id:Bytes
 mode:Int
 ahp:Bool
 deriving DecidableEq
def ax.pv(x:ax):PV:=.agg [.str x.id,.int .i64 x.mode,.bool x.ahp]
structure ax.jx(M:Nat)(x:ax):Prop where
 id:x.id.length≤M
 mode:j9 x.mode
abbrev ax.Ok(x:ax):Prop:=x.jx maxLen
structure X8 where
 id:Bytes
 w0:Bool
 w1:Bool
 w2:Bool
 w3:Bool
 w4:Bool
 w5:Bool
 w6:Bool
 aaj:Int
 aak:Int
 deriving DecidableEq
def X8.pv(x:X8):PV:=.agg [.str x.id,.bool x.w0,.bool x.w1,.bool x.w2,.bool x.w3,.bool x.w4,.bool x.w5,.bool x.w6,.int .i64 x.aaj,.int .i64 x.aak]
structure X8.jx(M:Nat)(x:X8):Prop where
 id:x.id.length≤M
 aaj:j9 x.aaj
 aak:j9 x.aak
abbrev X8.Ok(x:X8):Prop:=x.jx maxLen
structure X9 where
 cal:Int
 day:Int
 added:Bool
 deriving DecidableEq
def X9.pv(x:X9):PV:=.agg [.int .i64 x.cal,.int .i64 x.day,.bool x.added]
structure X9.jx(M:Nat)(x:X9):Prop where
 cal:j9 x.cal
 day:j9 x.day
abbrev X9.Ok(x:X9):Prop:=x.jx maxLen
structure an where
 stop:Int
 arr:Int
 dep:Int
 yf:Bool
 sV:Bool
 deriving DecidableEq
def an.pv(x:an):PV:=.agg [.int .i64 x.stop,.int .i64 x.arr,.int .i64 x.dep,.bool x.yf,.bool x.sV]
structure an.jx(M:Nat)(x:an):Prop where
 stop:j9 x.stop
 arr:j9 x.arr
 dep:j9 x.dep
abbrev an.Ok(x:an):Prop:=x.jx maxLen
structure Jg where
 id:Bytes
 bd:Int
 cal:Int
 free:Bool
 calls:List an
 deriving DecidableEq
def Jg.pv(x:Jg):PV:=.agg [.str x.id,.int .i64 x.bd,.int .i64 x.cal,.bool x.free,.rs 5 (x.calls.map an.pv)]
structure Jg.jx(M:Nat)(x:Jg):Prop where
 id:x.id.length≤M
 bd:j9 x.bd
 cal:j9 x.cal
 calls:x.calls.length≤M∧∀y∈x.calls,y.jx M
abbrev Jg.Ok(x:Jg):Prop:=x.jx maxLen
structure Jh where
 cX:Int
 t0:Int
 t1:Int
 every:Int
 deriving DecidableEq
def Jh.pv(x:Jh):PV:=.agg [.int .i64 x.cX,.int .i64 x.t0,.int .i64 x.t1,.int .i64 x.every]
structure Jh.jx(M:Nat)(x:Jh):Prop where
 cX:j9 x.cX
 t0:j9 x.t0
 t1:j9 x.t1
 every:j9 x.every
abbrev Jh.Ok(x:Jh):Prop:=x.jx maxLen
structure Ya where
 a:Int
 b:Int
 deriving DecidableEq
def Ya.pv(x:Ya):PV:=.agg [.int .i64 x.a,.int .i64 x.b]
structure Ya.jx(M:Nat)(x:Ya):Prop where
 a:j9 x.a
 b:j9 x.b
abbrev Ya.Ok(x:Ya):Prop:=x.jx maxLen
structure Ji where
 a:Int
 b:Int
 stop:Int
 deriving DecidableEq
def Ji.pv(x:Ji):PV:=.agg [.int .i64 x.a,.int .i64 x.b,.int .i64 x.stop]
structure Ji.jx(M:Nat)(x:Ji):Prop where
 a:j9 x.a
 b:j9 x.b
 stop:j9 x.stop
abbrev Ji.Ok(x:Ji):Prop:=x.jx maxLen
structure Path where
 a:Int
 b:Int
 bm:Int
 free:Bool
 deriving DecidableEq
def Path.pv(x:Path):PV:=.agg [.int .i64 x.a,.int .i64 x.b,.int .i64 x.bm,.bool x.free]
structure Path.jx(M:Nat)(x:Path):Prop where
 a:j9 x.a
 b:j9 x.b
 bm:j9 x.bm
abbrev Path.Ok(x:Path):Prop:=x.jx maxLen
structure aS where
 id:Bytes
 Ao:Int
 Ap:Int
 Aq:Int
 bm:Int
 Ar:Int
 deriving DecidableEq
def aS.pv(x:aS):PV:=.agg [.str x.id,.int .i64 x.Ao,.int .i64 x.Ap,.int .i64 x.Aq,.int .i64 x.bm,.int .i64 x.Ar]
structure aS.jx(M:Nat)(x:aS):Prop where
 id:x.id.length≤M
 Ao:j9 x.Ao
 Ap:j9 x.Ap
 Aq:j9 x.Aq
 bm:j9 x.bm
 Ar:j9 x.Ar
abbrev aS.Ok(x:aS):Prop:=x.jx maxLen
structure ou where
 stops:List Stop
 af:List ax
 WI:List X8
 WJ:List X9
 OV:List Jg
 OW:List Jh
 WK:List Ya
 OX:List Ji
 paths:List Path
 aw:List aS
 aQ:Int
 within:Int
 cap:Int
def ou.pv(x:ou):PV:=.agg [.rs 4 (x.stops.map Stop.pv),.rs 3 (x.af.map ax.pv),.rs 10 (x.WI.map X8.pv),.rs 3 (x.WJ.map X9.pv),.rs 5 (x.OV.map Jg.pv),.rs 4 (x.OW.map Jh.pv),.rs 2 (x.WK.map Ya.pv),.rs 3 (x.OX.map Ji.pv),.rs 4 (x.paths.map Path.pv),.rs 6 (x.aw.map aS.pv),.int .i64 x.aQ,.int .i64 x.within,.int .i64 x.cap]
structure ou.jx(M:Nat)(x:ou):Prop where
 stops:x.stops.length≤M∧∀y∈x.stops,y.jx M
 af:x.af.length≤M∧∀y∈x.af,y.jx M
 WI:x.WI.length≤M∧∀y∈x.WI,y.jx M
 WJ:x.WJ.length≤M∧∀y∈x.WJ,y.jx M
 OV:x.OV.length≤M∧∀y∈x.OV,y.jx M
 OW:x.OW.length≤M∧∀y∈x.OW,y.jx M
 WK:x.WK.length≤M∧∀y∈x.WK,y.jx M
 OX:x.OX.length≤M∧∀y∈x.OX,y.jx M
 paths:x.paths.length≤M∧∀y∈x.paths,y.jx M
 aw:x.aw.length≤M∧∀y∈x.aw,y.jx M
 aQ:j9 x.aQ
 within:j9 x.within
 cap:j9 x.cap
abbrev ou.Ok(x:ou):Prop:=x.jx maxLen
section
variable {P:Program} {M d:Nat} {t:TypeId} {a:List PV}
theorem ga{fs:Array Field}(hu:P.underlying t=some (.struct fs))(h:gf M P (d+1) t a):xM P (gf M P d) fs.toList a:=by unfold gf at h;rw[hu]at h;exact h
theorem yr(hu:P.underlying t=some .string)(h:gf M P (d+1) t a):∃s:Bytes,a=[.str s]∧s.length≤M:=by unfold gf at h;rw[hu]at h;exact h
theorem bY{k:IntKind}(hu:P.underlying t=some (.int k))(h:gf M P (d+1) t a):∃n,a=[.int k n]∧(Lit.int k n).wf=true:=by unfold gf at h;rw[hu]at h;exact h
theorem l9(hu:P.underlying t=some .bool)(h:gf M P (d+1) t a):∃b,a=[.bool b]:=by unfold gf at h;rw[hu]at h;exact h
theorem AJ{B:Type}{f:B→PV}{Q:B→Prop}:∀{es:List PV},(∀x∈es,∃s,x=f s∧Q s)→∃l:List B,es=l.map f∧∀s∈l,Q s
 |[],_=>⟨[],rfl,by simp⟩
 |x::es,h=>by
  obtain⟨s,hs,hq⟩:=h x (by simp);obtain⟨l,hl,UZ⟩:=AJ (es:=es) fun y hy=>h y (by simp[hy]);exact⟨s::l,by simp[hs,hl],fun y hy=>by
   rcases List.mem_cons.1 hy with rfl|hy
   ·exact hq
   ·exact UZ y hy⟩
theorem nk{e:TypeId}{B:Type}{f:B→PV}{Q:B→Prop}(hu:P.underlying t=some (.slice e))(AS:aF P e=true){c:Nat}(hc:aU P e=c)(hB:∀qs,gf M P d e qs→∃s,A7 true qs=f s∧Q s)(h:gf M P (d+1) t a):∃l:List B,a=[.rs c (l.map f)]∧l.length≤M∧∀s∈l,Q s:=by
 unfold gf at h;rw[hu]at h;obtain⟨es,rfl,hl,he⟩:=h;obtain⟨l,rfl,hq⟩:=AJ (f:=f) (Q:=Q) (es:=es) fun x hx=>by obtain⟨qs,rfl,_,hs⟩:=he x hx;rw[AS];exact hB qs hs
 exact⟨l,by rw[hc],by simpa using hl,hq⟩
end
end Go.Ab.Tt
