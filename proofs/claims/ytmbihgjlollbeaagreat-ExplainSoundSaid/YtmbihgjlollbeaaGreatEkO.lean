import Derived.Test.YtmbihgjlollbeaaGreatFbP1
namespace Go.Ab.Tt
set_option maxRecDepth 100000
set_option linter.all false
structure Fact where
 kind:Int
 wJ:Int
 a:Int
 b:Int
 c:Int
 deriving DecidableEq
def Fact.pv(x:Fact):PV:=.agg [.int .i64 x.kind,.int .i64 x.wJ,.int .i64 x.a,.int .i64 x.b,.int .i64 x.c]
structure Fact.fg(M:Nat)(x:Fact):Prop where
 kind:eP x.kind
 wJ:eP x.wJ
 a:eP x.a
 b:eP x.b
 c:eP x.c
abbrev Fact.Ok(x:Fact):Prop:=x.fg maxLen
theorem QG(x:Fact):asAgg 5 x.pv=some ():=rfl
theorem QH(x:Fact):Ab.asInt .i64 (cell x.pv 0)=some x.kind:=rfl
theorem QI(x:Fact):Ab.asInt .i64 (cell x.pv 1)=some x.wJ:=rfl
theorem QJ(x:Fact):Ab.asInt .i64 (cell x.pv 2)=some x.a:=rfl
theorem LQ(x:Fact):Ab.asInt .i64 (cell x.pv 3)=some x.b:=rfl
theorem QK(x:Fact):Ab.asInt .i64 (cell x.pv 4)=some x.c:=rfl
theorem ab5(x:Fact):PV.agg [.int .i64 x.kind,.int .i64 x.wJ,.int .i64 x.a,.int .i64 x.b,.int .i64 x.c]=x.pv:=rfl
structure oG.fg(M:Nat)(x:oG):Prop where
 prod:eP x.prod
 fst:eP x.fst
 lst:eP x.lst
 jU:eP x.jU
abbrev oG.Ok(x:oG):Prop:=x.fg maxLen
structure AW where
 cp:List bp
 dep:Int
 arr:Int
 cB:Int
 JE:Int
 walk:Int
 oS:List oG
def AW.pv(x:AW):PV:=.agg [.rs 9 (x.cp.map bp.pv),.int .i64 x.dep,.int .i64 x.arr,.int .i64 x.cB,.int .i64 x.JE,.int .i64 x.walk,.rs 4 (x.oS.map oG.pv)]
structure AW.fg(M:Nat)(x:AW):Prop where
 cp:x.cp.length≤M∧∀y∈x.cp,y.fg M
 dep:eP x.dep
 arr:eP x.arr
 cB:eP x.cB
 JE:eP x.JE
 walk:eP x.walk
 oS:x.oS.length≤M∧∀y∈x.oS,y.fg M
abbrev AW.Ok(x:AW):Prop:=x.fg maxLen
theorem aaz(x:AW):asAgg 7 x.pv=some ():=rfl
theorem aaA(x:AW):aw 9 (cell x.pv 0)=some (x.cp.map bp.pv):=rfl
theorem aaB(x:AW):Ab.asInt .i64 (cell x.pv 1)=some x.dep:=rfl
theorem aaC(x:AW):Ab.asInt .i64 (cell x.pv 2)=some x.arr:=rfl
theorem aaD(x:AW):Ab.asInt .i64 (cell x.pv 3)=some x.cB:=rfl
theorem aaE(x:AW):Ab.asInt .i64 (cell x.pv 4)=some x.JE:=rfl
theorem aaF(x:AW):Ab.asInt .i64 (cell x.pv 5)=some x.walk:=rfl
theorem aaG(x:AW):aw 4 (cell x.pv 6)=some (x.oS.map oG.pv):=rfl
theorem adm(x:AW):PV.agg [.rs 9 (x.cp.map bp.pv),.int .i64 x.dep,.int .i64 x.arr,.int .i64 x.cB,.int .i64 x.JE,.int .i64 x.walk,.rs 4 (x.oS.map oG.pv)]=x.pv:=rfl
def F5(T:ak)(N:ab)(q:gy)(O:AW):PV:=.agg (T.pv.cells++(N.pv.cells++(q.pv.cells++(O.pv.cells++[]))))
end Go.Ab.Tt
