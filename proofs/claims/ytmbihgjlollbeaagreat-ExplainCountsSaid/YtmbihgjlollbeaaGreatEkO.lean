import Derived.Test.YtmbihgjlollbeaaGreatFbP1
namespace Go.Ab.Tt
set_option maxRecDepth 100000
set_option linter.unusedVariables false
structure Fact where
 kind:Int
 GJ:Int
 a:Int
 b:Int
 c:Int
 deriving DecidableEq
def Fact.pv(x:Fact):PV:=.agg [.int .i64 x.kind,.int .i64 x.GJ,.int .i64 x.a,.int .i64 x.b,.int .i64 x.c]
structure Fact.eZ(M:Nat)(x:Fact):Prop where
 kind:iQ x.kind
 GJ:iQ x.GJ
 a:iQ x.a
 b:iQ x.b
 c:iQ x.c
abbrev Fact.Ok(x:Fact):Prop:=x.eZ maxLen
theorem aaN(x:Fact):Ab.asInt .i64 (cell x.pv 0)=some x.kind:=rfl
theorem Vp(x:Fact):Ab.asInt .i64 (cell x.pv 1)=some x.GJ:=rfl
theorem aew(x:Fact):Ab.asInt .i64 (cell x.pv 2)=some x.a:=rfl
theorem aex(x:Fact):Ab.asInt .i64 (cell x.pv 3)=some x.b:=rfl
structure mW.eZ(M:Nat)(x:mW):Prop where
 prod:iQ x.prod
 fst:iQ x.fst
 lst:iQ x.lst
 jy:iQ x.jy
abbrev mW.Ok(x:mW):Prop:=x.eZ maxLen
structure A7 where
 aL:List bp
 dep:Int
 arr:Int
 cB:Int
 K9:Int
 walk:Int
 j9:List mW
def A7.pv(x:A7):PV:=.agg [.rs 9 (x.aL.map bp.pv),.int .i64 x.dep,.int .i64 x.arr,.int .i64 x.cB,.int .i64 x.K9,.int .i64 x.walk,.rs 4 (x.j9.map mW.pv)]
structure A7.eZ(M:Nat)(x:A7):Prop where
 aL:x.aL.length≤M∧∀y∈x.aL,y.eZ M
 dep:iQ x.dep
 arr:iQ x.arr
 cB:iQ x.cB
 K9:iQ x.K9
 walk:iQ x.walk
 j9:x.j9.length≤M∧∀y∈x.j9,y.eZ M
abbrev A7.Ok(x:A7):Prop:=x.eZ maxLen
theorem aem(x:A7):asAgg 7 x.pv=some ():=rfl
theorem aen(x:A7):aw 9 (cell x.pv 0)=some (x.aL.map bp.pv):=rfl
theorem aeo(x:A7):Ab.asInt .i64 (cell x.pv 1)=some x.dep:=rfl
theorem aep(x:A7):Ab.asInt .i64 (cell x.pv 2)=some x.arr:=rfl
theorem aeq(x:A7):Ab.asInt .i64 (cell x.pv 3)=some x.cB:=rfl
theorem aer(x:A7):Ab.asInt .i64 (cell x.pv 4)=some x.K9:=rfl
theorem aes(x:A7):Ab.asInt .i64 (cell x.pv 5)=some x.walk:=rfl
theorem aet(x:A7):aw 4 (cell x.pv 6)=some (x.j9.map mW.pv):=rfl
def FC(T:ak)(N:ae)(q:gm)(O:A7):PV:=.agg (T.pv.cells++(N.pv.cells++(q.pv.cells++(O.pv.cells++[]))))
end Go.Ab.Tt
