import Derived.Test.YtoaknfoobjnjgaaGreatAbTrod
set_option linter.all false
namespace Go.Ab.Tt
abbrev mc(n:Int):Prop:=(Lit.int .i64 n).wf=true
structure Stop where
 id:Bytes
 AV:Int
 free:Bool
 change:Int
 deriving DecidableEq
def Stop.pv(x:Stop):PV:=.agg [.str x.id,.int .i64 x.AV,.bool x.free,.int .i64 x.change]
structure Stop.jN(M:Nat)(x:Stop):Prop where
 id:x.id.length≤M
 AV:mc x.AV
 change:mc x.change
abbrev Stop.Ok(x:Stop):Prop:=x.jN maxLen
structure az where
 id:Bytes
 mode:Int
 amM:Bool
 deriving DecidableEq
def az.pv(x:az):PV:=.agg [.str x.id,.int .i64 x.mode,.bool x.amM]
structure az.jN(M:Nat)(x:az):Prop where
 id:x.id.length≤M
 mode:mc x.mode
abbrev az.Ok(x:az):Prop:=x.jN maxLen
structure wb where
 id:Bytes
 w0:Bool
 w1:Bool
 w2:Bool
 w3:Bool
 w4:Bool
 w5:Bool
 w6:Bool
 IF:Int
 IG:Int
 deriving DecidableEq
def wb.pv(x:wb):PV:=.agg [.str x.id,.bool x.w0,.bool x.w1,.bool x.w2,.bool x.w3,.bool x.w4,.bool x.w5,.bool x.w6,.int .i64 x.IF,.int .i64 x.IG]
structure wb.jN(M:Nat)(x:wb):Prop where
 id:x.id.length≤M
 IF:mc x.IF
 IG:mc x.IG
abbrev wb.Ok(x:wb):Prop:=x.jN maxLen
structure yE where
 AX:Int
 day:Int
 added:Bool
 deriving DecidableEq
def yE.pv(x:yE):PV:=.agg [.int .i64 x.AX,.int .i64 x.day,.bool x.added]
structure yE.jN(M:Nat)(x:yE):Prop where
 AX:mc x.AX
 day:mc x.day
abbrev yE.Ok(x:yE):Prop:=x.jN maxLen
structure ai where
 stop:Int
 arr:Int
 dep:Int
 FE:Bool
 zU:Bool
 deriving DecidableEq
def ai.pv(x:ai):PV:=.agg [.int .i64 x.stop,.int .i64 x.arr,.int .i64 x.dep,.bool x.FE,.bool x.zU]
structure ai.jN(M:Nat)(x:ai):Prop where
 stop:mc x.stop
 arr:mc x.arr
 dep:mc x.dep
abbrev ai.Ok(x:ai):Prop:=x.jN maxLen
structure bY where
 id:Bytes
 aY:Int
 AX:Int
 free:Bool
 calls:List ai
 deriving DecidableEq
def bY.pv(x:bY):PV:=.agg [.str x.id,.int .i64 x.aY,.int .i64 x.AX,.bool x.free,.rs 5 (x.calls.map ai.pv)]
structure bY.jN(M:Nat)(x:bY):Prop where
 id:x.id.length≤M
 aY:mc x.aY
 AX:mc x.AX
 calls:x.calls.length≤M∧∀y∈x.calls,y.jN M
abbrev bY.Ok(x:bY):Prop:=x.jN maxLen
structure bC where
 aZ:Int
 t0:Int
 t1:Int
 every:Int
 deriving DecidableEq
def bC.pv(x:bC):PV:=.agg [.int .i64 x.aZ,.int .i64 x.t0,.int .i64 x.t1,.int .i64 x.every]
structure bC.jN(M:Nat)(x:bC):Prop where
 aZ:mc x.aZ
 t0:mc x.t0
 t1:mc x.t1
 every:mc x.every
abbrev bC.Ok(x:bC):Prop:=x.jN maxLen
structure kN where
 a:Int
 b:Int
 deriving DecidableEq
def kN.pv(x:kN):PV:=.agg [.int .i64 x.a,.int .i64 x.b]
structure kN.jN(M:Nat)(x:kN):Prop where
 a:mc x.a
 b:mc x.b
abbrev kN.Ok(x:kN):Prop:=x.jN maxLen
structure jT where
 a:Int
 b:Int
 stop:Int
 deriving DecidableEq
def jT.pv(x:jT):PV:=.agg [.int .i64 x.a,.int .i64 x.b,.int .i64 x.stop]
structure jT.jN(M:Nat)(x:jT):Prop where
 a:mc x.a
 b:mc x.b
 stop:mc x.stop
abbrev jT.Ok(x:jT):Prop:=x.jN maxLen
structure Path where
 a:Int
 b:Int
 cA:Int
 free:Bool
 deriving DecidableEq
def Path.pv(x:Path):PV:=.agg [.int .i64 x.a,.int .i64 x.b,.int .i64 x.cA,.bool x.free]
structure Path.jN(M:Nat)(x:Path):Prop where
 a:mc x.a
 b:mc x.b
 cA:mc x.cA
abbrev Path.Ok(x:Path):Prop:=x.jN maxLen
structure aS where
 id:Bytes
 Fq:Int
 Fs:Int
 Ft:Int
 cA:Int
 Fu:Int
 deriving DecidableEq
def aS.pv(x:aS):PV:=.agg [.str x.id,.int .i64 x.Fq,.int .i64 x.Fs,.int .i64 x.Ft,.int .i64 x.cA,.int .i64 x.Fu]
structure aS.jN(M:Nat)(x:aS):Prop where
 id:x.id.length≤M
 Fq:mc x.Fq
 Fs:mc x.Fs
 Ft:mc x.Ft
 cA:mc x.cA
 Fu:mc x.Fu
abbrev aS.Ok(x:aS):Prop:=x.jN maxLen
structure ao where
 stops:List Stop
 ae:List az
 gR:List wb
 ru:List yE
 aj:List bY
 bm:List bC
 dn:List kN
 cH:List jT
 paths:List Path
 av:List aS
 aQ:Int
 within:Int
 cap:Int
def ao.pv(x:ao):PV:=.agg [.rs 4 (x.stops.map Stop.pv),.rs 3 (x.ae.map az.pv),.rs 10 (x.gR.map wb.pv),.rs 3 (x.ru.map yE.pv),.rs 5 (x.aj.map bY.pv),.rs 4 (x.bm.map bC.pv),.rs 2 (x.dn.map kN.pv),.rs 3 (x.cH.map jT.pv),.rs 4 (x.paths.map Path.pv),.rs 6 (x.av.map aS.pv),.int .i64 x.aQ,.int .i64 x.within,.int .i64 x.cap]
structure ao.jN(M:Nat)(x:ao):Prop where
 stops:x.stops.length≤M∧∀y∈x.stops,y.jN M
 ae:x.ae.length≤M∧∀y∈x.ae,y.jN M
 gR:x.gR.length≤M∧∀y∈x.gR,y.jN M
 ru:x.ru.length≤M∧∀y∈x.ru,y.jN M
 aj:x.aj.length≤M∧∀y∈x.aj,y.jN M
 bm:x.bm.length≤M∧∀y∈x.bm,y.jN M
 dn:x.dn.length≤M∧∀y∈x.dn,y.jN M
 cH:x.cH.length≤M∧∀y∈x.cH,y.jN M
 paths:x.paths.length≤M∧∀y∈x.paths,y.jN M
 av:x.av.length≤M∧∀y∈x.av,y.jN M
 aQ:mc x.aQ
 within:mc x.within
 cap:mc x.cap
abbrev ao.Ok(x:ao):Prop:=x.jN maxLen
section
variable {P:Program} {M d:Nat} {t:TypeId} {a:List PV}
theorem dy{fs:Array Field}(hu:P.underlying t=some (.struct fs))(h:fD M P (d+1) t a):wI P (fD M P d) fs.toList a:=by unfold fD at h;rw[hu]at h;exact h
theorem WA{n:Nat}{e:TypeId}(hu:P.underlying t=some (.array n e))(h:fD M P (d+1) t a):Yq (fD M P d e) (aW P e) n a:=by unfold fD at h;rw[hu]at h;exact h
theorem AL(hu:P.underlying t=some .string)(h:fD M P (d+1) t a):∃s:Bytes,a=[.str s]∧s.length≤M:=by unfold fD at h;rw[hu]at h;exact h
theorem bq{k:IntKind}(hu:P.underlying t=some (.int k))(h:fD M P (d+1) t a):∃n,a=[.int k n]∧(Lit.int k n).wf=true:=by unfold fD at h;rw[hu]at h;exact h
theorem gm(hu:P.underlying t=some .bool)(h:fD M P (d+1) t a):∃b,a=[.bool b]:=by unfold fD at h;rw[hu]at h;exact h
theorem FO{B:Type}{f:B→PV}{Q:B→Prop}:∀{es:List PV},(∀x∈es,∃s,x=f s∧Q s)→∃l:List B,es=l.map f∧∀s∈l,Q s
 |[],_=>⟨[],rfl,by simp⟩
 |x::es,h=>by
  obtain⟨s,hs,hq⟩:=h x (by simp);obtain⟨l,hl,hql⟩:=FO (es:=es) fun y hy=>h y (by simp[hy]);exact⟨s::l,by simp[hs,hl],fun y hy=>by
   rcases anA.1 hy with rfl|hy
   ·exact hq
   ·exact hql y hy⟩
theorem jo{e:TypeId}{B:Type}{f:B→PV}{Q:B→Prop}(hu:P.underlying t=some (.slice e))(Oq:aJ P e=true){c:Nat}(hc:aW P e=c)(hB:∀qs,fD M P d e qs→∃s,Cu true qs=f s∧Q s)(h:fD M P (d+1) t a):∃l:List B,a=[.rs c (l.map f)]∧l.length≤M∧∀s∈l,Q s:=by
 unfold fD at h;rw[hu]at h;obtain⟨es,rfl,hl,he⟩:=h;obtain⟨l,rfl,hq⟩:=FO (f:=f) (Q:=Q) (es:=es) fun x hx=>by obtain⟨qs,rfl,_,hs⟩:=he x hx;rw[Oq];exact hB qs hs
 exact⟨l,by rw[hc],by simpa using hl,hq⟩
end
end Go.Ab.Tt
