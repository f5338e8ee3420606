import Derived.Test.YtmbihgjlollbeaaGreatFbP1
namespace Go.Ab.Tt
set_option maxRecDepth 100000
set_option linter.all false
structure Fact where
 kind:Int
 WU:Int
 a:Int
 b:Int
 c:Int
 deriving DecidableEq
def Fact.pv(x:Fact):PV:=.agg [.int .i64 x.kind,.int .i64 x.WU,.int .i64 x.a,.int .i64 x.b,.int .i64 x.c]
structure Fact.fB(M:Nat)(x:Fact):Prop where
 kind:jN x.kind
 WU:jN x.WU
 a:jN x.a
 b:jN x.b
 c:jN x.c
abbrev Fact.Ok(x:Fact):Prop:=x.fB maxLen
structure iY.fB(M:Nat)(x:iY):Prop where
 prod:jN x.prod
 fst:jN x.fst
 lst:jN x.lst
 jM:jN x.jM
abbrev iY.Ok(x:iY):Prop:=x.fB maxLen
structure HV where
 bw:List bx
 dep:Int
 arr:Int
 b8:Int
 Nx:Int
 walk:Int
 jb:List iY
def HV.pv(x:HV):PV:=.agg [.rs 9 (x.bw.map bx.pv),.int .i64 x.dep,.int .i64 x.arr,.int .i64 x.b8,.int .i64 x.Nx,.int .i64 x.walk,.rs 4 (x.jb.map iY.pv)]
structure HV.fB(M:Nat)(x:HV):Prop where
 bw:x.bw.length≤M∧∀y∈x.bw,y.fB M
 dep:jN x.dep
 arr:jN x.arr
 b8:jN x.b8
 Nx:jN x.Nx
 walk:jN x.walk
 jb:x.jb.length≤M∧∀y∈x.jb,y.fB M
abbrev HV.Ok(x:HV):Prop:=x.fB maxLen
theorem adn(x:HV):asAgg 7 x.pv=some ():=rfl
theorem ado(x:HV):ao 9 (cell x.pv 0)=some (x.bw.map bx.pv):=rfl
theorem adp(x:HV):Ab.asInt .i64 (cell x.pv 1)=some x.dep:=rfl
theorem adq(x:HV):Ab.asInt .i64 (cell x.pv 2)=some x.arr:=rfl
theorem adr(x:HV):Ab.asInt .i64 (cell x.pv 3)=some x.b8:=rfl
theorem ads(x:HV):Ab.asInt .i64 (cell x.pv 4)=some x.Nx:=rfl
theorem adt(x:HV):Ab.asInt .i64 (cell x.pv 5)=some x.walk:=rfl
theorem adu(x:HV):ao 4 (cell x.pv 6)=some (x.jb.map iY.pv):=rfl
theorem ang(x:HV):PV.agg [.rs 9 (x.bw.map bx.pv),.int .i64 x.dep,.int .i64 x.arr,.int .i64 x.b8,.int .i64 x.Nx,.int .i64 x.walk,.rs 4 (x.jb.map iY.pv)]=x.pv:=rfl
def L5(T:ay)(N:an)(q:iI)(O:HV):PV:=.agg (T.pv.cells++(N.pv.cells++(q.pv.cells++(O.pv.cells++[]))))
end Go.Ab.Tt
