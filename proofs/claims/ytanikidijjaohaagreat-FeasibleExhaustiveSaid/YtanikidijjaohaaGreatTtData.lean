import Derived.Test.YtanikidijjaohaaGreatAbTrod
namespace Go.Ab.Tt
abbrev lM(n:Int):Prop:=(Lit.int .i64 n).wf=true
structure Stop where
 id:Bytes
 qD:Int
 free:Bool
 change:Int
 deriving DecidableEq
def Stop.pv(x:Stop):PV:=.agg [.str x.id,.int .i64 x.qD,.bool x.free,.int .i64 x.change]
structure Stop.lu(M:Nat)(x:Stop):Prop where
 id:x.id.length≤M
 qD:lM x.qD
 change:lM x.change
abbrev Stop.Ok(x:Stop):Prop:=x.lu maxLen
structure ay where
 id:Bytes
 mode:Int
 qq:Bool
 deriving DecidableEq
def ay.pv(x:ay):PV:=.agg [.str x.id,.int .i64 x.mode,.bool x.qq]
structure ay.lu(M:Nat)(x:ay):Prop where
 id:x.id.length≤M
 mode:lM x.mode
abbrev ay.Ok(x:ay):Prop:=x.lu maxLen
structure Cal where
 id:Bytes
 w0:Bool
 w1:Bool
 w2:Bool
 w3:Bool
 w4:Bool
 w5:Bool
 w6:Bool
 adC:Int
 adD:Int
 deriving DecidableEq
def Cal.pv(x:Cal):PV:=.agg [.str x.id,.bool x.w0,.bool x.w1,.bool x.w2,.bool x.w3,.bool x.w4,.bool x.w5,.bool x.w6,.int .i64 x.adC,.int .i64 x.adD]
structure Cal.lu(M:Nat)(x:Cal):Prop where
 id:x.id.length≤M
 adC:lM x.adC
 adD:lM x.adD
abbrev Cal.Ok(x:Cal):Prop:=x.lu maxLen
structure Exc where
 cal:Int
 day:Int
 added:Bool
 deriving DecidableEq
def Exc.pv(x:Exc):PV:=.agg [.int .i64 x.cal,.int .i64 x.day,.bool x.added]
structure Exc.lu(M:Nat)(x:Exc):Prop where
 cal:lM x.cal
 day:lM x.day
abbrev Exc.Ok(x:Exc):Prop:=x.lu maxLen
structure bV where
 stop:Int
 arr:Int
 dep:Int
 cw:Bool
 br:Bool
 deriving DecidableEq
def bV.pv(x:bV):PV:=.agg [.int .i64 x.stop,.int .i64 x.arr,.int .i64 x.dep,.bool x.cw,.bool x.br]
structure bV.lu(M:Nat)(x:bV):Prop where
 stop:lM x.stop
 arr:lM x.arr
 dep:lM x.dep
abbrev bV.Ok(x:bV):Prop:=x.lu maxLen
structure NZ where
 id:Bytes
 eR:Int
 cal:Int
 free:Bool
 calls:List bV
 deriving DecidableEq
def NZ.pv(x:NZ):PV:=.agg [.str x.id,.int .i64 x.eR,.int .i64 x.cal,.bool x.free,.rs 5 (x.calls.map bV.pv)]
structure NZ.lu(M:Nat)(x:NZ):Prop where
 id:x.id.length≤M
 eR:lM x.eR
 cal:lM x.cal
 calls:x.calls.length≤M∧∀y∈x.calls,y.lu M
abbrev NZ.Ok(x:NZ):Prop:=x.lu maxLen
structure N0 where
 CL:Int
 t0:Int
 t1:Int
 every:Int
 deriving DecidableEq
def N0.pv(x:N0):PV:=.agg [.int .i64 x.CL,.int .i64 x.t0,.int .i64 x.t1,.int .i64 x.every]
structure N0.lu(M:Nat)(x:N0):Prop where
 CL:lM x.CL
 t0:lM x.t0
 t1:lM x.t1
 every:lM x.every
abbrev N0.Ok(x:N0):Prop:=x.lu maxLen
structure Thr where
 a:Int
 b:Int
 deriving DecidableEq
def Thr.pv(x:Thr):PV:=.agg [.int .i64 x.a,.int .i64 x.b]
structure Thr.lu(M:Nat)(x:Thr):Prop where
 a:lM x.a
 b:lM x.b
abbrev Thr.Ok(x:Thr):Prop:=x.lu maxLen
structure N1 where
 a:Int
 b:Int
 stop:Int
 deriving DecidableEq
def N1.pv(x:N1):PV:=.agg [.int .i64 x.a,.int .i64 x.b,.int .i64 x.stop]
structure N1.lu(M:Nat)(x:N1):Prop where
 a:lM x.a
 b:lM x.b
 stop:lM x.stop
abbrev N1.Ok(x:N1):Prop:=x.lu maxLen
structure Path where
 a:Int
 b:Int
 ez:Int
 free:Bool
 deriving DecidableEq
def Path.pv(x:Path):PV:=.agg [.int .i64 x.a,.int .i64 x.b,.int .i64 x.ez,.bool x.free]
structure Path.lu(M:Nat)(x:Path):Prop where
 a:lM x.a
 b:lM x.b
 ez:lM x.ez
abbrev Path.Ok(x:Path):Prop:=x.lu maxLen
structure aA where
 id:Bytes
 tr:Int
 bQ:Int
 iy:Int
 ez:Int
 bK:Int
 deriving DecidableEq
def aA.pv(x:aA):PV:=.agg [.str x.id,.int .i64 x.tr,.int .i64 x.bQ,.int .i64 x.iy,.int .i64 x.ez,.int .i64 x.bK]
structure aA.lu(M:Nat)(x:aA):Prop where
 id:x.id.length≤M
 tr:lM x.tr
 bQ:lM x.bQ
 iy:lM x.iy
 ez:lM x.ez
 bK:lM x.bK
abbrev aA.Ok(x:aA):Prop:=x.lu maxLen
structure rC where
 stops:List Stop
 aj:List ay
 aaZ:List Cal
 aa0:List Exc
 TK:List NZ
 TL:List N0
 aa1:List Thr
 TM:List N1
 paths:List Path
 aL:List aA
 bk:Int
 within:Int
 cap:Int
def rC.pv(x:rC):PV:=.agg [.rs 4 (x.stops.map Stop.pv),.rs 3 (x.aj.map ay.pv),.rs 10 (x.aaZ.map Cal.pv),.rs 3 (x.aa0.map Exc.pv),.rs 5 (x.TK.map NZ.pv),.rs 4 (x.TL.map N0.pv),.rs 2 (x.aa1.map Thr.pv),.rs 3 (x.TM.map N1.pv),.rs 4 (x.paths.map Path.pv),.rs 6 (x.aL.map aA.pv),.int .i64 x.bk,.int .i64 x.within,.int .i64 x.cap]
structure rC.lu(M:Nat)(x:rC):Prop where
 stops:x.stops.length≤M∧∀y∈x.stops,y.lu M
 aj:x.aj.length≤M∧∀y∈x.aj,y.lu M
 aaZ:x.aaZ.length≤M∧∀y∈x.aaZ,y.lu M
 aa0:x.aa0.length≤M∧∀y∈x.aa0,y.lu M
 TK:x.TK.length≤M∧∀y∈x.TK,y.lu M
 TL:x.TL.length≤M∧∀y∈x.TL,y.lu M
 aa1:x.aa1.length≤M∧∀y∈x.aa1,y.lu M
 TM:x.TM.length≤M∧∀y∈x.TM,y.lu M
 paths:x.paths.length≤M∧∀y∈x.paths,y.lu M
 aL:x.aL.length≤M∧∀y∈x.aL,y.lu M
 bk:lM x.bk
 within:lM x.within
 cap:lM x.cap
abbrev rC.Ok(x:rC):Prop:=x.lu maxLen
section
variable {P:Program} {M d:Nat} {t:TypeId} {a:List PV}
theorem iu{fs:Array Field}(hu:P.underlying t=some (.struct fs))(h:iB M P (d+1) t a):Bh P (iB M P d) fs.toList a:=by unfold iB at h;rw[hu]at h;exact h
theorem EA(hu:P.underlying t=some .string)(h:iB M P (d+1) t a):∃s:Bytes,a=[.str s]∧s.length≤M:=by unfold iB at h;rw[hu]at h;exact h
theorem cK{k:IntKind}(hu:P.underlying t=some (.int k))(h:iB M P (d+1) t a):∃n,a=[.int k n]∧(Lit.int k n).wf=true:=by unfold iB at h;rw[hu]at h;exact h
theorem jT(hu:P.underlying t=some .bool)(h:iB M P (d+1) t a):∃b,a=[.bool b]:=by unfold iB at h;rw[hu]at h;exact h
theorem DT{B:Type}{f:B→PV}{Q:B→Prop}:∀{es:List PV},(∀x∈es,∃s,x=f s∧Q s)→∃l:List B,es=l.map f∧∀s∈l,Q s
 |[],_=>⟨[],rfl,by simp⟩
 |x::es,h=>by
  obtain⟨s,hs,hq⟩:=h x (by simp);obtain⟨l,hl,hql⟩:=DT (es:=es) fun y hy=>h y (by simp[hy]);exact⟨s::l,by simp[hs,hl],fun y hy=>by
   rcases ah4.1 hy with rfl|hy
   ·exact hq
   ·exact hql y hy⟩
theorem sY{e:TypeId}{B:Type}{f:B→PV}{Q:B→Prop}(hu:P.underlying t=some (.slice e))(LV:aF P e=true){c:Nat}(hc:aV P e=c)(hB:∀qs,iB M P d e qs→∃s,En true qs=f s∧Q s)(h:iB M P (d+1) t a):∃l:List B,a=[.rs c (l.map f)]∧l.length≤M∧∀s∈l,Q s:=by
 unfold iB at h;rw[hu]at h;obtain⟨es,rfl,hl,he⟩:=h;obtain⟨l,rfl,hq⟩:=DT (f:=f) (Q:=Q) (es:=es) fun x hx=>by obtain⟨qs,rfl,_,hs⟩:=he x hx;rw[LV];exact hB qs hs
 exact⟨l,by rw[hc],by simpa using hl,hq⟩
end
end Go.Ab.Tt
