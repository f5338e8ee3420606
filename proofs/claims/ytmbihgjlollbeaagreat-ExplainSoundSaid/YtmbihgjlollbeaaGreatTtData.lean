import Derived.Test.YtmbihgjlollbeaaGreatAbTrod
namespace Go.Ab.Tt
abbrev eP(n:Int):Prop:=(Lit.int .i64 n).wf=true
structure Stop where
 id:Bytes
 BC:Int
 free:Bool
 change:Int
 deriving DecidableEq
def Stop.pv(x:Stop):PV:=.agg [.str x.id,.int .i64 x.BC,.bool x.free,.int .i64 x.change]
structure Stop.fg(M:Nat)(x:Stop):Prop where
 id:x.id.length≤M
 BC:eP x.BC
 change:eP x.change
abbrev Stop.Ok(x:Stop):Prop:=x.fg maxLen
structure aV where
 id:Bytes
 mode:Int
 tw:Bool
 deriving DecidableEq
def aV.pv(x:aV):PV:=.agg [.str x.id,.int .i64 x.mode,.bool x.tw]
structure aV.fg(M:Nat)(x:aV):Prop where
 id:x.id.length≤M
 mode:eP x.mode
abbrev aV.Ok(x:aV):Prop:=x.fg maxLen
structure qd where
 id:Bytes
 w0:Bool
 w1:Bool
 w2:Bool
 w3:Bool
 w4:Bool
 w5:Bool
 w6:Bool
 GI:Int
 GJ:Int
 deriving DecidableEq
def qd.pv(x:qd):PV:=.agg [.str x.id,.bool x.w0,.bool x.w1,.bool x.w2,.bool x.w3,.bool x.w4,.bool x.w5,.bool x.w6,.int .i64 x.GI,.int .i64 x.GJ]
structure qd.fg(M:Nat)(x:qd):Prop where
 id:x.id.length≤M
 GI:eP x.GI
 GJ:eP x.GJ
abbrev qd.Ok(x:qd):Prop:=x.fg maxLen
structure tg where
 xX:Int
 day:Int
 added:Bool
 deriving DecidableEq
def tg.pv(x:tg):PV:=.agg [.int .i64 x.xX,.int .i64 x.day,.bool x.added]
structure tg.fg(M:Nat)(x:tg):Prop where
 xX:eP x.xX
 day:eP x.day
abbrev tg.Ok(x:tg):Prop:=x.fg maxLen
structure aQ where
 stop:Int
 arr:Int
 dep:Int
 dY:Bool
 bQ:Bool
 deriving DecidableEq
def aQ.pv(x:aQ):PV:=.agg [.int .i64 x.stop,.int .i64 x.arr,.int .i64 x.dep,.bool x.dY,.bool x.bQ]
structure aQ.fg(M:Nat)(x:aQ):Prop where
 stop:eP x.stop
 arr:eP x.arr
 dep:eP x.dep
abbrev aQ.Ok(x:aQ):Prop:=x.fg maxLen
structure bK where
 id:Bytes
 fo:Int
 xX:Int
 free:Bool
 calls:List aQ
 deriving DecidableEq
def bK.pv(x:bK):PV:=.agg [.str x.id,.int .i64 x.fo,.int .i64 x.xX,.bool x.free,.rs 5 (x.calls.map aQ.pv)]
structure bK.fg(M:Nat)(x:bK):Prop where
 id:x.id.length≤M
 fo:eP x.fo
 xX:eP x.xX
 calls:x.calls.length≤M∧∀y∈x.calls,y.fg M
abbrev bK.Ok(x:bK):Prop:=x.fg maxLen
structure bg where
 bO:Int
 t0:Int
 t1:Int
 every:Int
 deriving DecidableEq
def bg.pv(x:bg):PV:=.agg [.int .i64 x.bO,.int .i64 x.t0,.int .i64 x.t1,.int .i64 x.every]
structure bg.fg(M:Nat)(x:bg):Prop where
 bO:eP x.bO
 t0:eP x.t0
 t1:eP x.t1
 every:eP x.every
abbrev bg.Ok(x:bg):Prop:=x.fg maxLen
structure k9 where
 a:Int
 b:Int
 deriving DecidableEq
def k9.pv(x:k9):PV:=.agg [.int .i64 x.a,.int .i64 x.b]
structure k9.fg(M:Nat)(x:k9):Prop where
 a:eP x.a
 b:eP x.b
abbrev k9.Ok(x:k9):Prop:=x.fg maxLen
structure iS where
 a:Int
 b:Int
 stop:Int
 deriving DecidableEq
def iS.pv(x:iS):PV:=.agg [.int .i64 x.a,.int .i64 x.b,.int .i64 x.stop]
structure iS.fg(M:Nat)(x:iS):Prop where
 a:eP x.a
 b:eP x.b
 stop:eP x.stop
abbrev iS.Ok(x:iS):Prop:=x.fg maxLen
structure Path where
 a:Int
 b:Int
 jD:Int
 free:Bool
 deriving DecidableEq
def Path.pv(x:Path):PV:=.agg [.int .i64 x.a,.int .i64 x.b,.int .i64 x.jD,.bool x.free]
structure Path.fg(M:Nat)(x:Path):Prop where
 a:eP x.a
 b:eP x.b
 jD:eP x.jD
abbrev Path.Ok(x:Path):Prop:=x.fg maxLen
structure aR where
 id:Bytes
 jU:Int
 cB:Int
 l7:Int
 jD:Int
 cr:Int
 deriving DecidableEq
def aR.pv(x:aR):PV:=.agg [.str x.id,.int .i64 x.jU,.int .i64 x.cB,.int .i64 x.l7,.int .i64 x.jD,.int .i64 x.cr]
structure aR.fg(M:Nat)(x:aR):Prop where
 id:x.id.length≤M
 jU:eP x.jU
 cB:eP x.cB
 l7:eP x.l7
 jD:eP x.jD
 cr:eP x.cr
abbrev aR.Ok(x:aR):Prop:=x.fg maxLen
structure ak where
 stops:List Stop
 au:List aV
 eR:List qd
 kZ:List tg
 ag:List bK
 ck:List bg
 tv:List k9
 lJ:List iS
 paths:List Path
 aP:List aR
 bX:Int
 within:Int
 cap:Int
def ak.pv(x:ak):PV:=.agg [.rs 4 (x.stops.map Stop.pv),.rs 3 (x.au.map aV.pv),.rs 10 (x.eR.map qd.pv),.rs 3 (x.kZ.map tg.pv),.rs 5 (x.ag.map bK.pv),.rs 4 (x.ck.map bg.pv),.rs 2 (x.tv.map k9.pv),.rs 3 (x.lJ.map iS.pv),.rs 4 (x.paths.map Path.pv),.rs 6 (x.aP.map aR.pv),.int .i64 x.bX,.int .i64 x.within,.int .i64 x.cap]
structure ak.fg(M:Nat)(x:ak):Prop where
 stops:x.stops.length≤M∧∀y∈x.stops,y.fg M
 au:x.au.length≤M∧∀y∈x.au,y.fg M
 eR:x.eR.length≤M∧∀y∈x.eR,y.fg M
 kZ:x.kZ.length≤M∧∀y∈x.kZ,y.fg M
 ag:x.ag.length≤M∧∀y∈x.ag,y.fg M
 ck:x.ck.length≤M∧∀y∈x.ck,y.fg M
 tv:x.tv.length≤M∧∀y∈x.tv,y.fg M
 lJ:x.lJ.length≤M∧∀y∈x.lJ,y.fg M
 paths:x.paths.length≤M∧∀y∈x.paths,y.fg M
 aP:x.aP.length≤M∧∀y∈x.aP,y.fg M
 bX:eP x.bX
 within:eP x.within
 cap:eP x.cap
abbrev ak.Ok(x:ak):Prop:=x.fg maxLen
section
variable {P:Program} {M d:Nat} {t:TypeId} {a:List PV}
theorem bG{fs:Array Field}(hu:P.underlying t=some (.struct fs))(h:eo M P (d+1) t a):oH P (eo M P d) fs.toList a:=by unfold eo at h;rw[hu]at h;exact h
theorem Uh{n:Nat}{e:TypeId}(hu:P.underlying t=some (.array n e))(h:eo M P (d+1) t a):V7 (eo M P d e) (aN P e) n a:=by unfold eo at h;rw[hu]at h;exact h
theorem zs(hu:P.underlying t=some .string)(h:eo M P (d+1) t a):∃s:Bytes,a=[.str s]∧s.length≤M:=by unfold eo at h;rw[hu]at h;exact h
theorem aL{k:IntKind}(hu:P.underlying t=some (.int k))(h:eo M P (d+1) t a):∃n,a=[.int k n]∧(Lit.int k n).wf=true:=by unfold eo at h;rw[hu]at h;exact h
theorem cJ(hu:P.underlying t=some .bool)(h:eo M P (d+1) t a):∃b,a=[.bool b]:=by unfold eo at h;rw[hu]at h;exact h
theorem DL{B:Type}{f:B→PV}{Q:B→Prop}:∀{es:List PV},(∀x∈es,∃s,x=f s∧Q s)→∃l:List B,es=l.map f∧∀s∈l,Q s
 |[],_=>⟨[],rfl,by simp⟩
 |x::es,h=>by
  obtain⟨s,hs,hq⟩:=h x (by simp);obtain⟨l,hl,hql⟩:=DL (es:=es) fun y hy=>h y (by simp[hy]);exact⟨s::l,by simp[hs,hl],fun y hy=>by
   rcases ake.1 hy with rfl|hy
   ·exact hq
   ·exact hql y hy⟩
theorem dH{e:TypeId}{B:Type}{f:B→PV}{Q:B→Prop}(hu:P.underlying t=some (.slice e))(LH:ax P e=true){c:Nat}(hc:aN P e=c)(hB:∀qs,eo M P d e qs→∃s,zg true qs=f s∧Q s)(h:eo M P (d+1) t a):∃l:List B,a=[.rs c (l.map f)]∧l.length≤M∧∀s∈l,Q s:=by
 unfold eo at h;rw[hu]at h;obtain⟨es,rfl,hl,he⟩:=h;obtain⟨l,rfl,hq⟩:=DL (f:=f) (Q:=Q) (es:=es) fun x hx=>by obtain⟨qs,rfl,_,hs⟩:=he x hx;rw[LH];exact hB qs hs
 exact⟨l,by rw[hc],by simpa using hl,hq⟩
end
end Go.Ab.Tt
