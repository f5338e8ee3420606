import Derived.Test.YtmbihgjlollbeaaGreatFbP1
namespace Go.Ab.Tt
set_option maxRecDepth 100000
set_option linter.all false
structure Fact where
 kind:Int
 WK:Int
 a:Int
 b:Int
 c:Int
 deriving DecidableEq
def Fact.pv(x:Fact):PV:=.agg [.int .i64 x.kind,.int .i64 x.WK,.int .i64 x.a,.int .i64 x.b,.int .i64 x.c]
structure Fact.fR(M:Nat)(x:Fact):Prop where
 kind:jM x.kind
 WK:jM x.WK
 a:jM x.a
 b:jM x.b
 c:jM x.c
abbrev Fact.Ok(x:Fact):Prop:=x.fR maxLen
structure iZ.fR(M:Nat)(x:iZ):Prop where
 prod:jM x.prod
 fst:jM x.fst
 lst:jM x.lst
 jL:jM x.jL
abbrev iZ.Ok(x:iZ):Prop:=x.fR maxLen
structure Jz where
 bw:List bx
 dep:Int
 arr:Int
 b9:Int
 PO:Int
 walk:Int
 iY:List iZ
def Jz.pv(x:Jz):PV:=.agg [.rs 9 (x.bw.map bx.pv),.int .i64 x.dep,.int .i64 x.arr,.int .i64 x.b9,.int .i64 x.PO,.int .i64 x.walk,.rs 4 (x.iY.map iZ.pv)]
structure Jz.fR(M:Nat)(x:Jz):Prop where
 bw:x.bw.length≤M∧∀y∈x.bw,y.fR M
 dep:jM x.dep
 arr:jM x.arr
 b9:jM x.b9
 PO:jM x.PO
 walk:jM x.walk
 iY:x.iY.length≤M∧∀y∈x.iY,y.fR M
abbrev Jz.Ok(x:Jz):Prop:=x.fR maxLen
theorem ajo(x:Jz):asAgg 7 x.pv=some ():=rfl
theorem ajp(x:Jz):ao 9 (cell x.pv 0)=some (x.bw.map bx.pv):=rfl
theorem ajq(x:Jz):Ab.asInt .i64 (cell x.pv 1)=some x.dep:=rfl
theorem ajr(x:Jz):Ab.asInt .i64 (cell x.pv 2)=some x.arr:=rfl
theorem ajs(x:Jz):Ab.asInt .i64 (cell x.pv 3)=some x.b9:=rfl
theorem ajt(x:Jz):Ab.asInt .i64 (cell x.pv 4)=some x.PO:=rfl
theorem aju(x:Jz):Ab.asInt .i64 (cell x.pv 5)=some x.walk:=rfl
theorem ajv(x:Jz):ao 4 (cell x.pv 6)=some (x.iY.map iZ.pv):=rfl
def LY(T:az)(N:an)(q:iJ)(O:Jz):PV:=.agg (T.pv.cells++(N.pv.cells++(q.pv.cells++(O.pv.cells++[]))))
end Go.Ab.Tt
