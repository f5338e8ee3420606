import Derived.Test.YtoaknfoobjnjgaaGreatD
set_option linter.all false
set_option maxHeartbeats 4000000
open Option renaming some→U,none→Z
open Bool renaming true→Y,false→J
open Decidable renaming decide→O
namespace Go.Ab
noncomputable section
structure bD.{u}{T:Sort u}(v:T)
instance bD.c.{u}{T:Sort u}{v:T}:CoeFun (bD v) λ_=>T:=⟨λ_=>v⟩
instance bD.d.{u}{T:Sort u}{v:T}:CoeOut (bD v) T:=⟨λ_=>v⟩
abbrev oP:=Option PV
abbrev lP:=List PV
abbrev oB:=Option Bool
abbrev fI(T:Type):=Int×Int×Int×T
abbrev xD(T:Type):=Int×Int×Int×Int×T
abbrev LO(T:Type):=Int×Int×Int×Int×Int×Int×T
abbrev Nq(T:Type):=PV×PV×PV×T
abbrev aca(T:Type):=PV×PV×PV×PV×PV×T
abbrev al8(T:Type):=PV×PV×PV×PV×PV×PV×PV×PV×PV×T
abbrev Oy(T:Type):=PV×PV×PV×PV×PV×PV×PV×PV×PV×PV×PV×PV×PV×T
abbrev al9(T:Type):=lP×lP×lP×T
abbrev aq6(T:Type):=lP×lP×lP×lP×T
abbrev yJ(T:Type):=lP×lP×lP×lP×lP×lP×T
abbrev RR(T:Type):=lP×lP×lP×lP×lP×lP×lP×lP×lP×T
abbrev cA(T:Type):=T->(T->Option PV)->Option PV
abbrev j4:bD (λ(f:aY->PV->PV->oP)(l:lP)=>match l with|[p0,p1]=>f cD p0 p1|_=>Z):=⟨⟩
abbrev nK:bD (λ(f:aY->PV->oP)(l:lP)=>match l with|[p0]=>f cD p0|_=>Z):=⟨⟩
abbrev mw3:bD (λ(f:aY->PV->PV->PV->PV->PV->oP)(l:lP)=>match l with|[p0,p1,p2,p3,p4]=>f cD p0 p1 p2 p3 p4|_=>Z):=⟨⟩
abbrev mw4:bD (λ(f:aY->PV->PV->PV->PV->oP)(l:lP)=>match l with|[p0,p1,p2,p3]=>f cD p0 p1 p2 p3|_=>Z):=⟨⟩
abbrev Gl:bD (λ(f:aY->PV->PV->PV->oP)(l:lP)=>match l with|[p0,p1,p2]=>f cD p0 p1 p2|_=>Z):=⟨⟩
abbrev mw6:bD (λ(f:aY->PV->PV->oP)(l:lP)=>match l with|[p0,PV.rp [c1]]=>f cD p0 c1|_=>Z):=⟨⟩
abbrev mw7:bD (λ(f:aY->PV->PV->PV->PV->PV->PV->PV->PV->PV->PV->PV->PV->PV->oP)(l:lP)=>match l with|[PV.rp [c0,c1,c2,c3,c4,c5,c6,c7,c8,c9,BB,BC,BD]]=>f cD c0 c1 c2 c3 c4 c5 c6 c7 c8 c9 BB BC BD|_=>Z):=⟨⟩
abbrev mw8:bD (λ(f:aY->PV->PV->PV->PV->PV->PV->PV->PV->PV->PV->PV->PV->PV->PV->oP)(l:lP)=>match l with|[PV.rp [c0,c1,c2,c3,c4,c5,c6,c7,c8,c9,BB,BC,BD],PV.rp [Qz]]=>f cD c0 c1 c2 c3 c4 c5 c6 c7 c8 c9 BB BC BD Qz|_=>Z):=⟨⟩
variable{R:Type}
abbrev Nr:bD (λ(f:lP->oP)(l:lP)(k:Int->Bool->Option R)=>((f l).bind λr=>(bY 2 r).bind λvs=>(Ab.asInt .i64 (vs.getD 0 .bad)).bind λv0=>(Ab.asBool (vs.getD 1 .bad)).bind λv1=>k v0 v1:Option R)):=⟨⟩
abbrev Di:bD (λ(f:lP->oP)(l:lP)(k:Int->Int->Option R)=>((f l).bind λr=>(bY 2 r).bind λvs=>(Ab.asInt .i64 (vs.getD 0 .bad)).bind λv0=>(Ab.asInt .i64 (vs.getD 1 .bad)).bind λv1=>k v0 v1:Option R)):=⟨⟩
abbrev auB:bD (λ(f:lP->oP)(l:lP)(k:lP->Int->Option R)=>((f l).bind λr=>(bY 2 r).bind λvs=>(aJ 4 (vs.getD 0 .bad)).bind λv0=>(Ab.asInt .i64 (vs.getD 1 .bad)).bind λv1=>k v0 v1:Option R)):=⟨⟩
abbrev SL:bD (λ(f:lP->oP)(l:lP)(k:lP->Int->Option R)=>((f l).bind λr=>(bY 2 r).bind λvs=>(aJ 5 (vs.getD 0 .bad)).bind λv0=>(Ab.asInt .i64 (vs.getD 1 .bad)).bind λv1=>k v0 v1:Option R)):=⟨⟩
abbrev aq7:bD (λ(f:lP->oP)(l:lP)(k:lP->Int->Option R)=>((f l).bind λr=>(bY 2 r).bind λvs=>(aJ 8 (vs.getD 0 .bad)).bind λv0=>(Ab.asInt .i64 (vs.getD 1 .bad)).bind λv1=>k v0 v1:Option R)):=⟨⟩
abbrev ama:bD (λ(f:lP->oP)(l:lP)(k:Int->Int->Bool->Option R)=>((f l).bind λr=>(bY 3 r).bind λvs=>(Ab.asInt .i64 (vs.getD 0 .bad)).bind λv0=>(Ab.asInt .i64 (vs.getD 1 .bad)).bind λv1=>(Ab.asBool (vs.getD 2 .bad)).bind λv2=>k v0 v1 v2:Option R)):=⟨⟩
abbrev acb:bD (λ(f:lP->oP)(l:lP)(k:Int->Int->Int->Option R)=>((f l).bind λr=>(bY 3 r).bind λvs=>(Ab.asInt .i64 (vs.getD 0 .bad)).bind λv0=>(Ab.asInt .i64 (vs.getD 1 .bad)).bind λv1=>(Ab.asInt .i64 (vs.getD 2 .bad)).bind λv2=>k v0 v1 v2:Option R)):=⟨⟩
abbrev auC:bD (λ(p:PV)=>PV.agg [cell p 0,cell p 1]):=⟨⟩
abbrev H5:bD (λ(p:PV)=>PV.agg [cell p 0,cell p 1,cell p 2]):=⟨⟩
abbrev vL:bD (λ(p:PV)=>PV.agg [cell p 0,cell p 1,cell p 2,cell p 3]):=⟨⟩
abbrev LP:bD (λ(p:PV)=>PV.agg [cell p 0,cell p 1,cell p 2,cell p 3,cell p 4]):=⟨⟩
abbrev awX:bD (λ(p:PV)=>PV.agg [cell p 0,cell p 1,cell p 2,cell p 3,cell p 4,cell p 5]):=⟨⟩
abbrev WL:bD (λ(p:PV)=>PV.agg [cell p 0,cell p 1,cell p 2,cell p 3,cell p 4,cell p 5,cell p 6,cell p 7]):=⟨⟩
abbrev WM:bD (λ(p:PV)=>PV.agg [cell p 0,cell p 1,cell p 2,cell p 3,cell p 4,cell p 5,cell p 6,cell p 7,cell p 8]):=⟨⟩
abbrev aeb:bD (λ(p:PV)=>PV.agg [cell p 0,cell p 1,cell p 2,cell p 3,cell p 4,cell p 5,cell p 6,cell p 7,cell p 8,cell p 9,cell p 10,cell p 11]):=⟨⟩
abbrev Bj:bD (λ(p:PV)=>PV.agg [cell p 0,cell p 1,cell p 2,cell p 3,cell p 4,cell p 5,cell p 6,cell p 7,cell p 8,cell p 9,cell p 10,cell p 11,cell p 12]):=⟨⟩
abbrev auD:bD (λ(p:PV)=>PV.agg [cell p 0,cell p 1,cell p 2,cell p 3,cell p 4,cell p 5,cell p 6,cell p 7,cell p 8,cell p 9,cell p 10,cell p 11,cell p 12,cell p 13,cell p 14]):=⟨⟩
abbrev amb:bD (λ(l:lP)=>rS (Kd.int .i64::[].append (Kd.int .i64::[].append (Kd.int .i64::[].append []))) l):=⟨⟩
abbrev auE:bD (λ(p:PV)(k:Int->Int->Int->Bool->Option R)=>((Ab.asAgg 4 p).bind λ_=>(Ab.asInt .i64 (cell p 0)).bind λv0=>(Ab.asInt .i64 (cell p 1)).bind λv1=>(Ab.asInt .i64 (cell p 2)).bind λv2=>(Ab.asBool (cell p 3)).bind λv3=>k v0 v1 v2 v3:Option R)):=⟨⟩
abbrev Bk:bD (λ(p:PV)(k:Int->Int->Int->Int->Int->Bytes->Int->Int->Int->Int->Int->Bool->lP->Option R)=>((Ab.asAgg 13 p).bind λ_=>(Ab.asInt .i64 (cell p 0)).bind λv0=>(Ab.asInt .i64 (cell p 1)).bind λv1=>(Ab.asInt .i64 (cell p 2)).bind λv2=>(Ab.asInt .i64 (cell p 3)).bind λv3=>(Ab.asInt .i64 (cell p 4)).bind λv4=>(bU (cell p 5)).bind λv5=>(Ab.asInt .i64 (cell p 6)).bind λv6=>(Ab.asInt .i64 (cell p 7)).bind λv7=>(Ab.asInt .i64 (cell p 8)).bind λv8=>(Ab.asInt .i64 (cell p 9)).bind λv9=>(Ab.asInt .i64 (cell p 10)).bind λv10=>(Ab.asBool (cell p 11)).bind λv11=>(aJ 5 (cell p 12)).bind λv12=>k v0 v1 v2 v3 v4 v5 v6 v7 v8 v9 v10 v11 v12:Option R)):=⟨⟩
abbrev auF:bD (λ(p:PV)(k:Int->Int->Int->Bool->Bool->Option R)=>((Ab.asAgg 5 p).bind λ_=>(Ab.asInt .i64 (cell p 0)).bind λv0=>(Ab.asInt .i64 (cell p 1)).bind λv1=>(Ab.asInt .i64 (cell p 2)).bind λv2=>(Ab.asBool (cell p 3)).bind λv3=>(Ab.asBool (cell p 4)).bind λv4=>k v0 v1 v2 v3 v4:Option R)):=⟨⟩
abbrev Bl:bD (λ(p:PV)(k:lP->lP->lP->lP->lP->lP->Int->Int->Int->Option R)=>((Ab.asAgg 9 p).bind λ_=>(aJ 4 (cell p 0)).bind λv0=>(aJ 3 (cell p 1)).bind λv1=>(aJ 8 (cell p 2)).bind λv2=>(aJ 5 (cell p 3)).bind λv3=>(aJ 4 (cell p 4)).bind λv4=>(aJ 6 (cell p 5)).bind λv5=>(Ab.asInt .i64 (cell p 6)).bind λv6=>(Ab.asInt .i64 (cell p 7)).bind λv7=>(Ab.asInt .i64 (cell p 8)).bind λv8=>k v0 v1 v2 v3 v4 v5 v6 v7 v8:Option R)):=⟨⟩
abbrev aq8:bD (λ(p:PV)(k:Int->Int->Int->Option R)=>((Ab.asAgg 3 p).bind λ_=>(Ab.asInt .i64 (cell p 0)).bind λv0=>(Ab.asInt .i64 (cell p 1)).bind λv1=>(Ab.asInt .i64 (cell p 2)).bind λv2=>k v0 v1 v2:Option R)):=⟨⟩
abbrev ajS:bD (λ(p:PV)(k:lP->Int->Int->Int->Option R)=>((Ab.asAgg 4 p).bind λ_=>(aJ 6 (cell p 0)).bind λv0=>(Ab.asInt .i64 (cell p 1)).bind λv1=>(Ab.asInt .i64 (cell p 2)).bind λv2=>(Ab.asInt .i64 (cell p 3)).bind λv3=>k v0 v1 v2 v3:Option R)):=⟨⟩
abbrev acd:bD (λ(p:PV)(k:Int->Int->Int->Bytes->Int->Bool->Bool->lP->Option R)=>((Ab.asAgg 8 p).bind λ_=>(Ab.asInt .i64 (cell p 0)).bind λv0=>(Ab.asInt .i64 (cell p 1)).bind λv1=>(Ab.asInt .i64 (cell p 2)).bind λv2=>(bU (cell p 3)).bind λv3=>(Ab.asInt .i64 (cell p 4)).bind λv4=>(Ab.asBool (cell p 5)).bind λv5=>(Ab.asBool (cell p 6)).bind λv6=>(aJ 5 (cell p 7)).bind λv7=>k v0 v1 v2 v3 v4 v5 v6 v7:Option R)):=⟨⟩
abbrev agn:bD (λ(p:PV)(k:Int->lP->lP->Option R)=>((Ab.asAgg 3 p).bind λ_=>(Ab.asInt .i64 (cell p 0)).bind λv0=>(aJ 2 (cell p 1)).bind λv1=>(aJ 13 (cell p 2)).bind λv2=>k v0 v1 v2:Option R)):=⟨⟩
abbrev ace:bD (λ(p:PV)(k:lP->lP->lP->lP->lP->lP->Int->Int->Int->Int->lP->lP->Int->Option R)=>((Ab.asAgg 13 p).bind λ_=>(aJ 4 (cell p 0)).bind λv0=>(aJ 3 (cell p 1)).bind λv1=>(aJ 8 (cell p 2)).bind λv2=>(aJ 5 (cell p 3)).bind λv3=>(aJ 4 (cell p 4)).bind λv4=>(aJ 6 (cell p 5)).bind λv5=>(Ab.asInt .i64 (cell p 6)).bind λv6=>(Ab.asInt .i64 (cell p 7)).bind λv7=>(Ab.asInt .i64 (cell p 8)).bind λv8=>(Ab.asInt .i64 (cell p 9)).bind λv9=>(aJ 2 (cell p 10)).bind λv10=>(aJ 13 (cell p 11)).bind λv11=>(Ab.asInt .i64 (cell p 12)).bind λv12=>k v0 v1 v2 v3 v4 v5 v6 v7 v8 v9 v10 v11 v12:Option R)):=⟨⟩
abbrev ago:bD (λ(p:PV)(k:Bytes->Int->Int->Bool->lP->Option R)=>((Ab.asAgg 5 p).bind λ_=>(bU (cell p 0)).bind λv0=>(Ab.asInt .i64 (cell p 1)).bind λv1=>(Ab.asInt .i64 (cell p 2)).bind λv2=>(Ab.asBool (cell p 3)).bind λv3=>(aJ 5 (cell p 4)).bind λv4=>k v0 v1 v2 v3 v4:Option R)):=⟨⟩
abbrev Oz:bD (λ(p:PV)(k:Int->Int->Int->Int->Option R)=>((Ab.asAgg 4 p).bind λ_=>(Ab.asInt .i64 (cell p 0)).bind λv0=>(Ab.asInt .i64 (cell p 1)).bind λv1=>(Ab.asInt .i64 (cell p 2)).bind λv2=>(Ab.asInt .i64 (cell p 3)).bind λv3=>k v0 v1 v2 v3:Option R)):=⟨⟩
abbrev so:bD (λ(p:PV)(k:lP->lP->lP->lP->lP->lP->lP->lP->lP->lP->Int->Int->Int->Option R)=>((Ab.asAgg 13 p).bind λ_=>(aJ 4 (cell p 0)).bind λv0=>(aJ 3 (cell p 1)).bind λv1=>(aJ 10 (cell p 2)).bind λv2=>(aJ 3 (cell p 3)).bind λv3=>(aJ 5 (cell p 4)).bind λv4=>(aJ 4 (cell p 5)).bind λv5=>(aJ 2 (cell p 6)).bind λv6=>(aJ 3 (cell p 7)).bind λv7=>(aJ 4 (cell p 8)).bind λv8=>(aJ 6 (cell p 9)).bind λv9=>(Ab.asInt .i64 (cell p 10)).bind λv10=>(Ab.asInt .i64 (cell p 11)).bind λv11=>(Ab.asInt .i64 (cell p 12)).bind λv12=>k v0 v1 v2 v3 v4 v5 v6 v7 v8 v9 v10 v11 v12:Option R)):=⟨⟩
abbrev ank:bD (λ(p:PV)(k:lP->lP->lP->lP->lP->lP->lP->lP->lP->lP->Int->Int->Int->Int->Int->Int->Int->Option R)=>((Ab.asAgg 17 p).bind λ_=>(aJ 4 (cell p 0)).bind λv0=>(aJ 3 (cell p 1)).bind λv1=>(aJ 10 (cell p 2)).bind λv2=>(aJ 3 (cell p 3)).bind λv3=>(aJ 5 (cell p 4)).bind λv4=>(aJ 4 (cell p 5)).bind λv5=>(aJ 2 (cell p 6)).bind λv6=>(aJ 3 (cell p 7)).bind λv7=>(aJ 4 (cell p 8)).bind λv8=>(aJ 6 (cell p 9)).bind λv9=>(Ab.asInt .i64 (cell p 10)).bind λv10=>(Ab.asInt .i64 (cell p 11)).bind λv11=>(Ab.asInt .i64 (cell p 12)).bind λv12=>(Ab.asInt .i64 (cell p 13)).bind λv13=>(Ab.asInt .i64 (cell p 14)).bind λv14=>(Ab.asInt .i64 (cell p 15)).bind λv15=>(Ab.asInt .i64 (cell p 16)).bind λv16=>k v0 v1 v2 v3 v4 v5 v6 v7 v8 v9 v10 v11 v12 v13 v14 v15 v16:Option R)):=⟨⟩
abbrev ajT:bD (λ(v0 v1 v2 v3 v4:Bool)=>PV.agg [.bool v0,.bool v1,.bool v2,.bool v3,.bool v4]):=⟨⟩
abbrev amc:bD (λ(v0 v1 v2 v3:Int)(v4:Bool)=>PV.agg [.int .i64 v0,.int .i64 v1,.int .i64 v2,.int .i64 v3,.bool v4]):=⟨⟩
abbrev H6:bD (λ(v0 v1 v2 v3 v4:Int)(v5:Bytes)(v6 v7 v8 v9 v10:Int)(v11:Bool)(v12:lP)=>PV.agg [.int .i64 v0,.int .i64 v1,.int .i64 v2,.int .i64 v3,.int .i64 v4,.str v5,.int .i64 v6,.int .i64 v7,.int .i64 v8,.int .i64 v9,.int .i64 v10,.bool v11,.rs 5 v12]):=⟨⟩
abbrev SM:bD (λ(v0 v1 v2:Int)(v3:Bytes)(v4:Int)(v5 v6:Bool)(v7:lP)=>PV.agg [.int .i64 v0,.int .i64 v1,.int .i64 v2,.str v3,.int .i64 v4,.bool v5,.bool v6,.rs 5 v7]):=⟨⟩
abbrev uY:bD (λ(v0 v1 v2 v3 v4 v5 v6 v7 v8 v9:lP)(v10 v11 v12:Int)=>PV.agg [.rs 4 v0,.rs 3 v1,.rs 10 v2,.rs 3 v3,.rs 5 v4,.rs 4 v5,.rs 2 v6,.rs 3 v7,.rs 4 v8,.rs 6 v9,.int .i64 v10,.int .i64 v11,.int .i64 v12]):=⟨⟩
abbrev Bm:bD (λ(v0 v1 v2 v3 v4 v5:lP)(v6 v7 v8:Int)=>PV.agg [.rs 4 v0,.rs 3 v1,.rs 8 v2,.rs 5 v3,.rs 4 v4,.rs 6 v5,.int .i64 v6,.int .i64 v7,.int .i64 v8]):=⟨⟩
abbrev WN:bD (λ(v0 v1 v2 v3 v4 v5:lP)(v6 v7 v8 v9:Int)(v10 v11:lP)(v12:Int)=>PV.agg [.rs 4 v0,.rs 3 v1,.rs 8 v2,.rs 5 v3,.rs 4 v4,.rs 6 v5,.int .i64 v6,.int .i64 v7,.int .i64 v8,.int .i64 v9,.rs 2 v10,.rs 13 v11,.int .i64 v12]):=⟨⟩
abbrev amd:bD (λ(v0:Bytes)(v1 v2:Int)(v3:Bool)(v4:lP)=>PV.agg [.str v0,.int .i64 v1,.int .i64 v2,.bool v3,.rs 5 v4]):=⟨⟩
abbrev cM:bD (λ(p:PV)(j:Nat)(k:Int->Option R)=>((Ab.asInt .i64 (cell p j)).bind k:Option R)):=⟨⟩
abbrev FH:bD (λ(p:PV)(j:Nat)(k:Bool->Option R)=>((Ab.asBool (cell p j)).bind k:Option R)):=⟨⟩
abbrev Cl:bD (λ(s:Nat)(p:PV)(j:Nat)(k:lP->Option R)=>((aJ s (cell p j)).bind k:Option R)):=⟨⟩
abbrev j5:bD (λ(p:PV)(k:Int->Option R)=>((Ab.asInt .i64 p).bind k:Option R)):=⟨⟩
abbrev mcb:bD (λ(p:PV)(k:Bool->Option R)=>((Ab.asBool p).bind k:Option R)):=⟨⟩
abbrev mcA:bD (λ(n:Nat)(p:PV)(k:Unit->Option R)=>((Ab.asAgg n p).bind k:Option R)):=⟨⟩
abbrev mcG:bD (λ(p:lP)(j:Nat)(k:Int->Option R)=>((Ab.asInt .i64 (p.getD j .bad)).bind k:Option R)):=⟨⟩
abbrev Dj:bD (λ(f:lP->oP)(l:lP)(k:Int->Option R)=>((f l).bind λr=>(Ab.asInt .i64 r).bind k:Option R)):=⟨⟩
abbrev mO:bD (λ(f:lP->oP)(l:lP)(k:Bool->Option R)=>((f l).bind λr=>(Ab.asBool r).bind k:Option R)):=⟨⟩
abbrev fJ:bD (λ(l:lP)(i:Int)(k:PV->Option R)=>((uW l i).bind k:Option R)):=⟨⟩
abbrev mcJ:bD (λ(f:lP->oP)(l:lP)(k:PV->Option R)=>((f l).bind k:Option R)):=⟨⟩
abbrev gX:bD (λ(c:Bool)(x:oB)(k:Bool->Option R)=>((bif c then U Y else x).bind k:Option R)):=⟨⟩
abbrev gN:bD (λ(c:Bool)(x:oB)(k:Bool->Option R)=>((bif c then x else U J).bind k:Option R)):=⟨⟩
abbrev Ef:bD (λ(l:lP)(i:Int)(k:PV->Option R)=>(if aU i l.length then l[i.toNat]?.bind k else Z:Option R)):=⟨⟩
abbrev cF:bD (IntKind.i64.wrap:Int->Int):=⟨⟩
instance:CoeFun PV (λ_=>Nat->PV):=⟨cell⟩
instance:Coe Int PV:=⟨.int .i64⟩
abbrev TY0:=lP×Int×Int×yJ (LO (List (PV×PV)×List (PV×PV)×List (PV×PV)×Unit))
abbrev TY1:=lP×lP×fI Unit
abbrev TY2:=PV×lP×Int×Int×lP×Int×Nq (lP×Unit)
abbrev TY3:=Int×PV×lP×fI (lP×Nq (lP×Unit))
abbrev TY4:=Int×PV×xD (Nq (lP×lP×Unit))
abbrev TY5:=Int×PV×Int×lP×lP×Unit
abbrev TY6:=Bool×lP×Int×Int×List (PV×PV)×Unit
abbrev TY7:=Int×Bool×lP×Int×Int×List (PV×PV)×Unit
abbrev TY8:=lP×lP×Int×Int×lP×Unit
abbrev TY9:=lP×lP×fI (lP×Int×Int×lP×Unit)
abbrev auG:=Int×lP×Int×Int×List (PV×PV)×Unit
abbrev alB:=lP×Int×Int×yJ (LO (List (PV×PV)×Unit))
abbrev auH:=lP×xD (Int×Unit)
abbrev SN:=lP×Int×Int×List (PV×PV)×Unit
abbrev awY:=Int×Int×lP×fI (aca (PV×Unit))
abbrev auI:=xD (yJ (fI Unit))
abbrev awZ:=LO (yJ (fI Unit))
abbrev auJ:=Int×Int×yJ (fI (aca Unit))
abbrev acf:=lP×Int×Bool×Int×lP×Unit
abbrev ame:=lP×Int×Bool×Int×Int×lP×lP×Unit
abbrev abn:=Int×lP×lP×Int×lP×Unit
abbrev amf:=Int×lP×lP×Int×Int×lP×Unit
abbrev aiE:=Int×yJ (fI Unit)
abbrev aw0:=Int×Int×yJ (fI (Nq (PV×Unit)))
abbrev aw1:=lP×Int×yJ (fI Unit)
abbrev aw2:=Int×Int×yJ (fI (aca (Nq Unit)))
abbrev aw3:=Int×lP×fI (lP×fI Unit)
abbrev amg:=Int×yJ (fI (yJ (fI Unit)))
abbrev aw4:=fI (lP×Int×Int×al8 (PV×Unit))
abbrev auK:=Int×Int×lP×Int×Int×Nq (PV×lP×Unit)
abbrev aw5:=xD (lP×Int×Int×Nq (PV×lP×Unit))
abbrev aq9:=Int×lP×Int×Int×lP×Unit
abbrev aw6:=fI (lP×Int×Int×List (PV×PV)×Unit)
abbrev ara:=al9 (Int×Int×Unit)
abbrev aw7:=lP×lP×Int×Int×Bool×lP×Int×Int×lP×Int×Int×Nq (PV×Unit)
abbrev aw8:=lP×lP×List (PV×PV)×Unit
abbrev aw9:=aq6 (Int×Int×List (PV×PV)×List (PV×PV)×Unit)
abbrev axa:=lP×Int×lP×Int×Int×Unit
abbrev axb:=lP×lP×Int×lP×Int×Int×List (PV×PV)×Unit
abbrev axc:=fI (Bytes×Int×Int×Bool×lP×lP×Unit)
abbrev axd:=xD (Int×lP×Unit)
abbrev axe:=lP×lP×Int×Int×Bool×Int×Nq (PV×Unit)
abbrev axf:=al9 (Int×Unit)
abbrev axg:=lP×Int×Int×Nq Unit
abbrev axh:=lP×fI (Nq (PV×Unit))
abbrev arb:=Int×RR (lP×fI Unit)
abbrev auL:=lP×Int×Int×lP×Int×lP×Unit
abbrev axi:=lP×Int×Int×lP×Int×Int×lP×Unit
abbrev auM:=Int×Int×yJ (LO (lP×fI (aq6 (lP×Unit))))
abbrev auN:=Int×lP×xD (Int×Bytes×Int×Bool×Bool×lP×Bool×aca (fI (Bytes×Int×Bool×Bool×lP×Unit)))
abbrev auO:=lP×Int×Int×RR (lP×fI (List (PV×PV)×Unit))
abbrev anl:=lP×PV×Int×lP×Int×Int×lP×aca (Nq (xD (Bool×Unit)))
abbrev auP:=lP×PV×Int×Int×RR (lP×fI (lP×Unit))
abbrev anm:=xD (RR (lP×fI (lP×Unit)))
abbrev auQ:=Int×lP×LO (aca (fI (Bytes×Int×Bool×Bool×RR (lP×lP×fI (lP×Unit)))))
abbrev ZE:=Int×Int×RR (lP×fI (lP×Unit))
abbrev auR:=lP×Int×Int×Bool×Int×RR (lP×fI (lP×aca (Nq Unit)))
abbrev auS:=Int×lP×xD (Bytes×Int×Bool×Bool×fI (Bytes×Int×Bool×Bool×lP×Unit))
abbrev auT:=Int×Int×lP×Int×RR (lP×fI (lP×Unit))
abbrev auU:=lP×xD (Bytes×Int×Bool×Bool×lP×Unit)
abbrev ann:=lP×Int×RR (lP×fI Unit)
abbrev auV:=lP×Int×Int×RR (lP×fI Unit)
abbrev auW:=lP×Int×RR (lP×fI (lP×Unit))
abbrev auX:=lP×LO (Int×Bytes×xD (Int×Bool×lP×Unit))
abbrev auY:=Int×Int×yJ (fI (yJ (fI (lP×Unit))))
abbrev aec:=lP×LO (fI (yJ (lP×Unit)))
abbrev auZ:=LO (lP×fI (lP×lP×LO (yJ Unit)))
abbrev ano:=Int×Int×lP×fI (lP×LO (Int×yJ Unit))
abbrev au0:=Int×Int×yJ (lP×LO (lP×fI (yJ (LO (aq6 (lP×Unit))))))
abbrev au1:=Int×yJ (fI (yJ (fI (lP×Unit))))
abbrev eU:bD (λ(a:Int)=>PV.int .i64 a):=⟨⟩
abbrev bE:bD (λ(a:Bool)(b c:oP)=>if a then b else c):=⟨⟩
abbrev cY:bD (λ(a:PV)=>U a):=⟨⟩
abbrev uV:bD (λ(a:Bool)(b:PV)(c:oP)=>bE a (cY b) c):=⟨⟩
abbrev fh:bD (λ(a:Bool)(b:Int)(c:oP)=>uV a (eU b) c):=⟨⟩
abbrev bK:bD (eU 0):=⟨⟩
abbrev iV:bD (λ(a b:PV)(c:Int->Int->oP)=>j5 a λa=>j5 b (c a)):=⟨⟩
abbrev iw:bD (λ(a:Prop) [Decidable a]=>O a):=⟨⟩
def yp(L:aY)(p0 p1:PV):oP:=iV p0 p1 λa b=>bE (a !=a) (uV (b !=b) bK (cY (eU (-1)))) (fh (b !=b) 1 (fh (iw (a<b)) (-1) (fh (iw (a>b)) 1 (cY bK))))
def gL:=j4 yp
abbrev uZ:bD (λ(a:PV)(b:Int->oP)=>cM a 0 b):=⟨⟩
abbrev au2:bD (λ(a:PV->Int->oP)=>(λb=>uZ b (a b):PV->oP)):=⟨⟩
abbrev gG:bD (λ(a:lP)(b:Int)(c:PV->Int->oP)=>fJ a b (au2 c)):=⟨⟩
abbrev cP:bD (λ(a:Prop) [Decidable a](b c:oP)=>bE (iw a) b c):=⟨⟩
abbrev qi:bD (λ(a b:Int)(c:lP)(d:oP)(e:PV->Int->oP)=>cP (a<b) (gG c a e) d):=⟨⟩
abbrev aq:bD (λ(a:Int)=>(cF (a+1):Int)):=⟨⟩
def gm:cA (Int×lP×Int×Int×Unit):=λ(a,b,c,d,_)=>λe=>qi d c b (cY a) λ_ f=>uV (f !=a) f (e (a,b,c,aq d,()))
abbrev cG:bD (λ(a:lP)=>(↑a.length:Int)):=⟨⟩
abbrev UA:bD (λ(a:Int)(b:lP)=>((a,b,cG b,0,()):Int×lP×Int×Int×Unit)):=⟨⟩
abbrev iI:bD (λ(a:Nat)(b:PV)(c:lP->oP)=>((aJ a b).bind c:oP)):=⟨⟩
def J8(L:aY)(p0:PV):oP:=iI 1 p0 λa=>L.run gm (UA 0 a)
def zm:=nK J8
abbrev iW:bD (λ(a:Nat)(b:lP)=>PV.rs a b):=⟨⟩
def rJ(L:aY)(p0 p1:PV):oP:=auE p0 λa b c _=>auE p1 λd e f _=>Dj gL [a,d] λa=>Dj gL [b,e] λb=>Dj gL [c,f] λc=>Dj zm [iW 1 [a,b,c]] λa=>cY a
def da:=j4 rJ
abbrev cQ:bD (λ(a:PV)(b:Int->oP)=>cM a 1 b):=⟨⟩
abbrev aed:bD (λ(a:PV)(b:oP)(c:lP->Int->lP->oP)=>mZ 3 a b λa=>Cl 4 a 0 λb=>cQ a λd=>Cl 13 a 2 (c b d)):=⟨⟩
abbrev cw:bD (λ(a:Bool)=>U a):=⟨⟩
abbrev bM:bD (λ(a:Prop) [Decidable a]=>cw (iw a)):=⟨⟩
abbrev sA:bD (λ(a:Bool)=>PV.bool a):=⟨⟩
abbrev yK:bD (λ(a:Bool)(b:oB)=>gN a b λa=>cY (sA a)):=⟨⟩
abbrev OA:bD (λ(a:Int)(b:Prop) [Decidable b]=>yK (iw (a>=0)) (bM b)):=⟨⟩
abbrev eV:bD (sA J):=⟨⟩
def rf(L:aY)(p0 p1:PV):oP:=aed p0 (j5 p1 λ_=>cY eV) λa _ _=>j5 p1 λb=>OA b (b<(↑a.length:Int))
def eM:=j4 rf
def AX(L:aY)(p0:PV):oP:=j5 p0 λa=>yK (iw (0<=a)) (bM (a<=36524))
def dh:=nK AX
abbrev OB:bD (λ(a:UInt8)(b:Int)=>bM ((↑a.toNat:Int)<=b)):=⟨⟩
abbrev F5:bD (λ(a:UInt8)=>(↑a.toNat:Int)):=⟨⟩
abbrev ig:bD (λ(a b:oP)=>(λc=>bE c a b:Bool->oP)):=⟨⟩
def AE:cA (Bytes×Int×Unit):=λ(a,b,_)=>λc=>cP (b<(↑(List.length a):Int)) ((agK a b).bind λd=>gN (iw (97<=(↑d.toNat:Int))) (OB d 122) (ig (c (a,aq b,())) (gN (iw (65<=(↑d.toNat:Int))) (OB d 90) (ig (c (a,aq b,())) (gN (iw (48<=(↑d.toNat:Int))) (OB d 57) (ig (c (a,aq b,())) (bE (F5 d==45) (c (a,aq b,())) (bE (F5 d==95) (c (a,aq b,())) (bE (F5 d==46) (c (a,aq b,())) (cY eV)))))))))) (yK (iw ((↑(List.length a):Int)>0)) (bM ((↑(List.length a):Int)<=32)))
abbrev axj:bD (λ(a:Option Bytes)(b:Bytes->oP)=>a.bind b):=⟨⟩
abbrev gd:bD (λ(a:PV)(b:Bytes->oP)=>axj (bU a) b):=⟨⟩
def G7(L:aY)(p0:PV):oP:=gd p0 λa=>L.run AE (a,0,())
def iC:=nK G7
abbrev fi:bD (λ(a:Prop) [Decidable a](b:oB)(c:Bool->oP)=>gX (iw a) b c):=⟨⟩
abbrev I3:bD (λ(a:Bool)(b:oB)(c:PV)(d:oP)=>gX a b λa=>uV a c d):=⟨⟩
abbrev j6:bD (λ(a:lP)(b:Int)(c:Nat)(d:Int->oB)=>fJ a b λa=>cM a c d):=⟨⟩
abbrev zy:bD (λ(a:Bool)(b:oB)=>gN a b λa=>U a):=⟨⟩
abbrev uB:bD (λ(a:oB)(b:PV)(c:oP)=>(λd=>I3 d a b c:Bool->oP)):=⟨⟩
abbrev au3:bD (λ(a:Int)(b:PV)(c d:Int)(e:lP)(f g:Int)(h:oP)=>I3 (iw (a<0)) (cM b 0 λa=>bM (a>=c)) (eU 9) (gN (iw (d>0)) (j6 e (cF (d-1)) 0 λa=>cM b 0 λb=>cw (a==b)) λa=>fh a 13 (cQ b λa=>fi (a<f) (cM b 1 λa=>cM b 2 λb=>bM (a>b)) λa=>gX a (cM b 2 λa=>bM (a>g)) (uB (zy (iw (d>0)) (cM b 1 λa=>j6 e (cF (d-1)) 2 λb=>bM (a<b))) (eU 10) h)))):=⟨⟩
def Q5(L:aY)(p0 p1 p2 p3 p4:PV):oP:=iI 5 p0 λa=>iV p1 p2 λb c=>iV p3 p4 λd e=>gG a b λf g=>au3 g f c b a d e (cY bK)
def E9:=mw3 Q5
abbrev Dk:bD (λ(a:Int)(b:lP)(c:oP)=>uV (a !=0) (PV.b8 b) c):=⟨⟩
abbrev F6:bD (λ(a:PV)(b:oP)=>(λc=>Dk c [a,c] b:Int->oP)):=⟨⟩
abbrev L8:bD (λ(a:lP)=>cY (PV.b8 a)):=⟨⟩
abbrev xE:bD (λ(a:PV)=>L8 [a,bK]):=⟨⟩
abbrev uD:bD (xE bK):=⟨⟩
abbrev cy:bD (λ(a:lP)=>iW 5 a):=⟨⟩
def CT:cA (auH):=λ(a,b,c,d,e,f,_)=>λg=>cP (f<e) (Dj E9 [cy a,f,b,c,d] (F6 f (g (a,b,c,d,e,aq f,())))) uD
abbrev Eg:bD (λ(a b c:Int)(d:Bool->oP)=>fi (a<b) (bM (a>c)) d):=⟨⟩
abbrev ij:bD (λ(a:Nat)(b c:PV)(d:lP->Int->oP)=>iI a b λa=>j5 c (d a)):=⟨⟩
abbrev lL:bD (λ(a:Bool)(b:PV)(c:Int)(d:oP)=>uV a (PV.b8 [b,eU c]) d):=⟨⟩
abbrev gJ:bD (λ(a:PV)(b:Int)(c:oP)=>(λd=>lL d a b c:Bool->oP)):=⟨⟩
def J2(L:aY)(p0 p1 p2 p3:PV):oP:=ij 5 p0 p1 λa b=>iV p2 p3 λc d=>Eg (↑a.length:Int) 2 32 (gJ bK 5 (L.run CT (a,b,c,d,cG a,0,())))
def jS:=mw4 J2
abbrev aee:bD (λ(a b c:PV)=>j5 a λa=>iV b c λb c=>yK (iw (a>=b)) (bM (a<=c))):=⟨⟩
def AY(L:aY)(p0 p1 p2:PV):oP:=aee p0 p1 p2
def dB:=Gl AY
abbrev vh:bD (λ(a:PV)(b:Int)=>([a,bK,eU b]:lP)):=⟨⟩
abbrev lF:bD (λ(a:lP->oP)(b:lP)=>mO a b λa=>U (!a)):=⟨⟩
abbrev au4:bD (λ(a:Bool)(b:oB)(c:Bool)(d:lP->oP)(e:lP)(f:Bool)(g:Int)(h:Bool)(i:Int)(j:oB)(k:Bool->oP)=>(uB (zy a b) (eU 2) (bE c (Di d [cy e,eU 64,bK,eU 3155932800] λ_ b=>uV (b !=0) b (gN (!f) (cw (g !=0)) λb=>gX b (zy (!h) (cw (i !=0))) λb=>gX b (zy (!a) j) k)) (gN (!f) (cw (g !=0)) λb=>gX b (zy (!h) (cw (i !=0))) λb=>gX b (zy (!a) j) k)):Bool->oP)):=⟨⟩
def ua(L:aY)(p0 p1:PV):oP:=Bk p0 λ_ _ _ _ _ _ _ _ a b c d e=>mcA 5 p1 λ_=>FH p1 0 λf=>FH p1 1 λg=>FH p1 2 λh=>FH p1 3 λi=>FH p1 4 λj=>gN f (lF dB (vh a 31)) λk=>gX k (zy g (lF dB [b,eU (-43200),eU 43200])) (au4 h (lF dB (vh c 63)) j jS e f a g b (cw (c !=0)) λa=>gX a (zy (!i) (cw d)) (uB (zy (!j) (bM ((↑e.length:Int)>0))) (eU 1) (cY bK)))
def pH:=j4 ua
def Ff(L:aY)(p0:PV):oP:=j5 p0 λa=>uV (a==1) (ajT Y Y J J J) (uV (a==3) (ajT Y J J J J) (uV (a==4) (ajT J J J J Y) (uV (a==5) (ajT J J Y Y Y) (cY (ajT J J J J J)))))
def uf:=nK Ff
abbrev uE:bD (λ(a:lP->oP)(b:lP)(c:Nat)(d:PV->oP)=>mcJ a b λa=>mcA c a λ_=>d a):=⟨⟩
abbrev sq:bD (λ(a:Bytes)=>PV.str a):=⟨⟩
abbrev H7:bD (λ(a b:Int)=>([a,eU 1,eU b]:lP)):=⟨⟩
def wo(L:aY)(p0:PV):oP:=Bk p0 λa b c d e f g h i j k l m=>mO dB (vh a 7) λn=>fh (!n) 36 (fh (iw (b<1)) 2 (mO dB (vh c 3155932800) λn=>gX (!n) (lF dB (vh d 3155932800)) (uB (bM (c>=d)) (eU 10) (mO dB (H7 e 6) λn=>fh (!n) 35 (mO iC [sq f] λn=>fh (!n) 12 (mO dh [g] λn=>fh (!n) 11 (fh (iw (h<0)) 2 (uE uf [e] 5 λn=>Dj pH [H6 a b c d e f g h i j k l m,LP n] λa=>cY a))))))))
def fF:=nK wo
abbrev WO:bD (λ(a b c:Int)(d:PV)(e:oP)=>I3 (iw (a<b)) (bM (a>c)) d e):=⟨⟩
abbrev anp:bD (λ(a b:PV)(c:Int->Int->Int->Int->oP)=>Bk a λa d e f g h i j k l m n o=>j5 b λb=>WO b 0 3155932800 (eU 10) (Dj fF [H6 a d e f g h i j k l m n o] λe=>uV (e !=0) e (c a d f b))):=⟨⟩
def pB(L:aY)(p0 p1 p2:PV):oP:=aed p0 (anp p1 p2 λ_ _ _ _=>Z) λa _ _=>anp p1 p2 λb c d e=>fh (iw (b>=(↑a.length:Int))) 36 (fJ a b λa=>FH a 2 λb=>gN b (cM a 3 λa=>bM (c<=a)) (uB (bM (d<=e)) (eU 37) (cY bK)))
def je:=Gl pB
abbrev u7:bD (λ(a:Bool)=>cY (sA a)):=⟨⟩
def ri(L:aY)(p0 p1 p2:PV):oP:=mZ 2 p0 (iV p1 p2 λ_ _=>Z) λa=>FH a 0 λb=>cQ a λa=>iV p1 p2 λc d=>gX (!b) (zy (iw (c>a)) (bM (IntKind.u64.wrap (IntKind.u64.wrap c-IntKind.u64.wrap a)>IntKind.u64.wrap d))) λa=>u7 a
def jL:=Gl ri
abbrev ky:bD (λ(a:lP)=>PV.rp a):=⟨⟩
abbrev RS:bD (λ(a:PV)=>([a 0,a 1,a 2,a 3]:lP)):=⟨⟩
abbrev od:bD (λ(a:lP->oP)(b:lP)=>mO a b λa=>cw a):=⟨⟩
abbrev cB:bD (λ(a:lP)=>iW 4 a):=⟨⟩
def rj(L:aY)(p0 p1 p2:PV):oP:=aed p0 (iV p1 p2 λa _=>mO eM [PV.nL,a] λa=>yK a Z) λa b c=>iV p1 p2 λd e=>mO eM [ky [cB a,b,iW 13 c],d] λc=>yK c (fJ a d λa=>od jL [ky (RS a),e,b])
def dP:=Gl rj
abbrev anq:bD (λ(a:PV)(b:Bytes)(c d e:Int)=>Bk a λ_ a _ _ _ f g h _ _ _ _ _=>uV (!(b==f)) (sA (Op.bytesLess b f)) (uV (c !=g) (sA (iw (c<g))) (uV (d !=h) (sA (iw (d<h))) (u7 (iw (e<a)))))):=⟨⟩
def EN(L:aY)(p0 p1:PV):oP:=Bk p0 λ_ a _ _ _ b c d _ _ _ _ _=>anq p1 b c d a
def s9:=j4 EN
def rn(L:aY)(p0 p1:PV):oP:=Bk p0 λ_ _ _ _ _ a b c _ _ _ _ _=>Bk p1 λ_ _ _ _ _ d e f _ _ _ _ _=>gN (a==d) (cw (b==e)) λa=>yK a (cw (c==f))
def gy:=j4 rn
def Hq(L:aY)(p0:PV):oP:=auF p0 λ_ a b _ _=>cY (eU (if 30<cF (b-a)then 30 else cF (b-a)))
def wu:=nK Hq
abbrev gf:bD (λ(a b:Int)(c:lP)(d:oP)(e:PV->oP)=>cP (a<b) (fJ c a e) d):=⟨⟩
def vJ:cA (Int×lP×Int×Int×Unit):=λ(a,b,c,d,_)=>λe=>gf d c b (u7 Y) λf=>cQ f λg=>fi (g<a) (cM f 2 λa=>cM f 1 λb=>bM (a<b)) (uB (cM f 2 λa=>bM (a>3155932800)) eV (cM f 2 λa=>e (a,b,c,aq d,())))
def C1(L:aY)(p0:PV):oP:=iI 5 p0 λa=>L.run vJ (UA 0 a)
def qK:=nK C1
abbrev RT:bD (λ(a:PV)(b:List (PV×PV))=>(Ab.asInt .i64 (eY a bK b):Option Int)):=⟨⟩
abbrev iX:bD (sA Y):=⟨⟩
def oO:cA (PV×Int×Int×Bool×Unit):=λ(a,b,c,d)=>λe=>bE d.1 (uV (c==b) iX (dX 3 a (e (a,b,0,J,())) λd f=>(RT (eU c) (d.zip f)).bind λg=>e (a,b,g,pL (eU c) (d.zip f),()))) (cY eV)
def CW(L:aY)(p0 p1 p2:PV):oP:=dX 3 p0 (iV p1 p2 λ_ a=>L.run oO (PV.sr,a,0,J,())) λa b=>iV p1 p2 λc d=>(RT (eU c) (a.zip b)).bind λe=>L.run oO (PV.rm 3 a b,d,e,pL (eU c) (a.zip b),())
def qE:=Gl CW
abbrev cJ:bD (λ(a:lP)=>PV.agg a):=⟨⟩
def Rk(L:aY)(p0 p1 p2:PV):oP:=j5 p0 λa=>iV p1 p2 λb c=>cY (cJ [a,b,c])
def ma:=Gl Rk
def AL(L:aY)(p0 p1:PV):oP:=iV p0 p1 λa b=>OA a (a<b)
def ec:=j4 AL
abbrev H8:bD (λ(a:Nat)(b:lP->oP)=>(λc=>Cl 5 c a b:PV->oP)):=⟨⟩
abbrev aef:bD (λ(a:PV)(b:lP)(c d e:Nat)(f:lP->lP->Int->oP)=>uZ a λg=>fJ b g (H8 c λg=>cM a d λd=>fJ b d (H8 c λb=>cM a e (f g b)))):=⟨⟩
abbrev RU:bD (λ(a:PV)(b:Nat)=>(λc=>cM a b λa=>cw (c==a):Int->oB)):=⟨⟩
abbrev yU:bD (λ(a:PV)(b:lP)=>([a,cG b]:lP)):=⟨⟩
abbrev Eh:bD (λ(a:PV)(b:List (PV×PV))=>Ab.asBool (eY a eV b)):=⟨⟩
abbrev LQ:bD (cJ [bK,bK,bK]):=⟨⟩
abbrev Jt:bD (λ(a:Bool)(b:oB)=>gX a b λa=>cw a):=⟨⟩
abbrev F7:bD (λ(a:lP->oP)(b:lP)(c d:oB)(e:Bool->oP)=>mO a b λa=>gX (!a) c λa=>gX a d e):=⟨⟩
abbrev I4:bD (λ(a:Int)(b:PV)(c:Int)=>uE ma [eU a,b,eU c] 3 λa=>U (H5 a)):=⟨⟩
abbrev iY:bD (λ(a:PV)(b:Nat)(c:PV)(d:Nat)(e:Int->Int->oP)=>cM a b λa=>cM c d (e a)):=⟨⟩
def jl:cA (TY0):=λ(a,b,c,d,e,f,g,h,i,j,k,l,m,n,o,p,q,r,_)=>λs=>qi c b a (cY LQ) λt u=>F7 ec (yU u f) (cM t 2 λa=>lF ec (yU a f)) (cM t 0 (RU t 2)) (ig (I4 3 c 9) (aef t f 7 2 1 λu v w=>mO ec (yU w u) λw=>gX (!w) (cM t 3 λa=>lF ec (yU a v)) (ig (I4 3 c 9) (uZ t λw=>iY t 1 t 2 λx y=>iY t 3 t 0 λz A=>(RT (eU A) p).bind λ_=>cQ t λB=>fJ u B λB=>iY B 0 t 3 λB C10=>gG v C10 λ_ v=>bE (B !=v) (I4 3 c 13) (FH t 4 λv=>gN v (cM t 1 λa=>gX (aq a !=cG u) (cM t 3 λa=>cw (a !=0)) λa=>gX a (cw (pL (eU A) p)) λa=>gX a (cM t 2 λa=>(Eh (eU a) q).bind λa=>cw a) λa=>Jt a (cM t 2 λa=>cM t 0 λb=>od qE [PV.rm 3 (List.map (λa=>a.fst) p) (List.map (λa=>a.snd) p),a,b])) (ig (I4 3 c 19) ((Eh (cJ [w,x,y,z]) r).bind (ig (I4 3 c 6) (FH t 4 (ig (uZ t λu=>iY t 2 t 2 λt v=>s (a,b,aq c,d,e,f,g,h,i,j,k,l,m,n,o,eu (eU u) (eU v) p,eu (eU t) iX q,eu (cJ [w,x,y,z]) iX r,())) (s (a,b,aq c,d,e,f,g,h,i,j,k,l,m,n,o,p,q,eu (cJ [w,x,y,z]) iX r,()))))))))))))
abbrev SO:bD (λ(a:lP)(b:Int)=>iw ((↑a.length:Int)>b)):=⟨⟩
def rC(L:aY)(p0:PV):oP:=Bl p0 λa b c d e f g h i=>bE (SO d 1024) (I4 3 bK 5) (L.run jl (d,cG d,0,a,b,c,d,e,f,g,h,i,0,0,0,[],[],[],()))
def gD:=nK rC
def vq(L:aY)(p0:PV)(c1:PV):oP:=j5 p0 λa=>fi (a<0) (j5 c1 λb=>bM (a>=b)) λa=>u7 a
def eI:=mw6 vq
def B4:cA (lP×fI Unit):=λ(a,b,c,d,_)=>λe=>qi c b a (cY bK) λ_ f=>mO eI [f,ky [d]] λf=>fh f 9 (e (a,b,aq c,d,()))
def tV(L:aY):cA (TY1):=λ(a,b,c,d,e,_)=>λf=>qi d c b (L.run B4 (a,cG a,0,e,())) λg h=>mO eI [h,ky [e]] (uB (cM g 1 λa=>od eI [a,ky [e]]) (eU 9) (cM g 2 λh=>I3 (iw (h<0)) (cM g 2 λa=>bM (a>1073741824)) (eU 2) (f (a,b,c,aq d,e,()))))
abbrev uF:bD (λ(a:Nat)(b:PV)(c:Nat)(d:PV)(e:lP->lP->oP)=>iI a b λa=>iI c d (e a)):=⟨⟩
def AS(L:aY)(p0 p1 p2:PV):oP:=j5 p0 λa=>uF 3 p1 1 p2 λb c=>WO a 0 64 (eU 2) (fh (SO b 4096) 5 (L.run (tV L) (c,b,cG b,0,a,())))
def oS:=Gl AS
def CZ(L:aY)(p0 p1:PV):oP:=aq8 p0 λ_ a b=>aq8 p1 λ_ c d=>fi (a<c) (zy (a==c) (bM (b<d))) λa=>u7 a
def mB:=j4 CZ
abbrev pq:bD (λ(a:Bool)(b:oP)=>uV a eV b):=⟨⟩
def fH(L:aY)(c01:PV)(c02:PV)(p1 p2:PV):oP:=ij 4 c01 c02 λa _=>iV p1 p2 λb c=>fJ a b λb=>fJ a c λa=>mO mB [H5 b,H5 a] λc=>uV c iX (mO mB [H5 a,H5 b] λc=>pq c (iY b 3 a 3 λa b=>u7 (iw (a<b))))
def bl:List PV->Option PV|[PV.rp [PV.fn 282 [],c01,c02],p1,p2]=>fH cD c01 c02 p1 p2|_=>Z
def Kv(gb:PV×lP×Int×lP×Unit->oP):cA (TY2):=λ(a,_,b,c,d,e,f)=>λ_=>cP (c<b) Z (gb (a,d,e,f.2.2.2.1,()))
abbrev uG:bD (λ(a:Prop) [Decidable a](b:oP)=>if a then b else Z):=⟨⟩
abbrev fj:bD (λ(a:Int)=>(a.toNat:Nat)):=⟨⟩
abbrev zz:bD (λ(a:Int)(b c:lP)(d:PV->oP)=>uG (aU a b.length) (c[fj a]?.bind d)):=⟨⟩
abbrev ZF:bD (λ(a:lP)(b:Int)=>ky [PV.fn 282 [],cB a,b]):=⟨⟩
abbrev OC:bD (λ(a b:Int)=>(cF ((cF (a-1)).tdiv b):Int)):=⟨⟩
abbrev uH:bD (λ(a:lP)(b:Int)(c:PV)=>(a.set (fj b) c:lP)):=⟨⟩
def rG(DY:TY2->oP):cA (TY3):=λ(a,b,c,d,e,f,g,h,i,j,k,l)=>λm=>gN (iw (a>0)) (od bl [ZF k f,a,OC a 2]) (ig (zz (cF ((cF (a-1)).tdiv 2)) k k λl=>Ef k a λn=>zz a k k λ_=>zz (cF ((cF (a-1)).tdiv 2)) (k.set a.toNat (vL l)) (uH k a (vL l)) λ_=>m (OC a 2,b,c,d,e,f,g,h,i,j,uH (uH k a (vL l)) (OC a 2) (vL n),())) (DY (b,c,d,aq e,g,f,h,i,j,k,l)))
abbrev eS:bD (λ(a:lP)=>([cJ a]:lP)):=⟨⟩
abbrev Ei:bD (λ(a:Int->oP)=>(λb=>cM b 2 a:PV->oP)):=⟨⟩
abbrev kz:bD (λ(a b:lP)(c:Nat)(d:oP)=>uG ((a++b).length*c<=au/\0<c) d):=⟨⟩
abbrev OD:bD (λ(a b:lP)(c:oP)=>kz a [PV.agg b] 32 c):=⟨⟩
abbrev FI:bD (λ(a:lP)=>(cF (cG a-1):Int)):=⟨⟩
def fV(L:aY)(gb:PV×lP×Int×lP×Unit->oP):cA (TY2):=λ(a,b,c,d,e,f,g,h,i,j,k)=>λl=>gf d c b (gb (a,e,f,j,())) λm=>cQ m λn=>Ef e n (Ei λn=>cP (n<0) (cQ m λk=>j5 h λn=>cM m 2 λm=>j5 i λo=>OD j [k,cF (n+m),cF (o+1),f] (L.run (rG l) (FI (j++eS [k,cF (n+m),aq o,f]),a,b,c,d,aq f,e,g,h,i,j++eS [k,cF (n+m),aq o,f],()))) (l (a,b,c,aq d,e,f,g,h,i,j,k)))
abbrev Ej:bD (λ(a b:oP)=>(λc=>bE (!c) a b:Bool->oP)):=⟨⟩
abbrev kA:bD (λ(a:lP)(b:Int)(c:lP)=>(uH a b (cJ c):lP)):=⟨⟩
abbrev vM:bD (iW 0 []):=⟨⟩
abbrev au5:bD (λ(a:PV)(b:lP)(c:PV×lP×Int×lP×Unit->oP)(d:PV)(e:Int)(f:lP)(g:aY)(h i:PV)=>j5 a λj=>Ef b j (Ei λj=>cP (j>=0) (c (d,b,e,f,())) (j5 a λj=>Ef b j λ_=>j5 a λk=>dX 3 d (g.run (Kv c) (d,[],(↑0:Int),0,kA b j [a,h,i],e,a,h,i,f,())) λl m=>iI 3 (eY (eU k) vM (l.zip m)) λk=>g.run (fV g c) (d,k,cG k,0,kA b j [a,h,i],e,a,h,i,f,())))):=⟨⟩
abbrev au6:bD (λ(a:PV)(b:lP)(c:PV×lP×Int×lP×Unit->oP)(d:PV)(e:Int)(f:lP)(g:aY)(h i:PV)(j k:Int)(l:TY4->oP)(m n o:Int)=>(Ej (au5 a b c d e f g h i) (zz (cF (cF j+1)) f f λc=>Ef f k λg=>zz k f f λ_=>zz (cF (cF j+1)) (f.set k.toNat (vL c)) (uH f k (vL c)) λ_=>l (aq (cF j),d,e,m,n,o,a,h,i,b,uH (uH f k (vL c)) (aq (cF j)) (vL g),())):Bool->oP)):=⟨⟩
def fy(L:aY)(gb:PV×lP×Int×lP×Unit->oP):cA (TY4):=λ(a,b,c,d,e,f,g,h,i,j,k,_)=>λl=>cP (cF (cF (2*a)+1)>=(↑k.length:Int)) (au5 g j gb b c k L h i) (gN (iw (cF (cF (cF (2*a)+1)+1)<(↑k.length:Int))) (od bl [ZF k c,aq (aq (cF (2*a))),aq (cF (2*a))]) (ig (mO bl [ZF k c,aq (aq (cF (2*a))),a] (au6 g j gb b c k L h i (cF (2*a)+1) a l d e f)) (mO bl [ZF k c,aq (cF (2*a)),a] (au6 g j gb b c k L h i (2*a) a l d e f))))
abbrev ZG:bD (λ(a b c:Int)(d:lP)(e:Prop) [Decidable e](f:oP)=>uG (a<=b/\b<=c/\c<=(↑d.length:Int)/\e) f):=⟨⟩
abbrev eT:bD (λ(a:lP)=>iW 3 a):=⟨⟩
abbrev anr:bD (λ(a b:lP)(c:PV->PV->oP)=>uG (aU 0 a.length) (a[Int.toNat 0]?.bind λd=>zz (cF ((↑a.length:Int)-1)) b b (c d))):=⟨⟩
def ic(L:aY):cA (PV×lP×Int×lP×Unit):=λ(a,b,c,d,_)=>λe=>uV (cG d==0) (eT b) (anr d d λf g=>uG (aU 0 d.length) (d[Int.toNat 0]?.bind λh=>anr d (d.set (Int.toNat 0) (vL g)) λ_ _=>ZG (0:Int) 0 (cF ((↑d.length:Int)-1)) ((d.set (Int.toNat 0) (vL g)).set (cF ((↑d.length:Int)-1)).toNat (vL h)) (4=4) (L.run (fy L e) (0,a,c,0,0,0,f 0,f 1,f 2,b,List.take (fj (FI d)-Int.toNat 0) (uH (d.set (Int.toNat 0) (vL g)) (FI d) (vL h)),()))))
def I5(L:aY):cA (TY5):=λ(a,b,c,d,e,_)=>λf=>gN (iw (a>0)) (od bl [ZF e c,a,OC a 2]) (ig (zz (cF ((cF (a-1)).tdiv 2)) e e λg=>Ef e a λh=>zz a e e λ_=>zz (cF ((cF (a-1)).tdiv 2)) (e.set a.toNat (vL g)) (uH e a (vL g)) λ_=>f (OC a 2,b,c,d,uH (uH e a (vL g)) (OC a 2) (vL h),())) (L.run (ic L) (b,d,c,e,())))
def kH(L:aY):cA (PV×fI (lP×Unit)):=λ(a,b,c,d,e,_)=>λf=>cP (d<c) (Ef e d λ_=>f (a,b,c,aq d,kA e d [d,eU (-1),eU (-1)],())) (L.run (I5 L) (cF ((↑1:Int)-1),a,aq 0,e,eS [b,bK,bK,bK],()))
abbrev LR:bD (λ(a:Int)(b c:Nat)(d:oP)=>uG (0<=a/\a<=a/\a.toNat*b<=au/\0<b/\0<c) d):=⟨⟩
abbrev LU:bD (λ(a:Nat)(b:PV)=>(List.replicate a b:lP)):=⟨⟩
def yo(L:aY)(p0 p1 p2:PV):oP:=j5 p0 λa=>dX 3 p1 (j5 p2 λb=>LR a 24 3 (L.run (kH L) (PV.sr,b,cG (LU (fj a) LQ),0,LU (fj a) LQ,()))) λb c=>j5 p2 λd=>LR a 24 3 (L.run (kH L) (PV.rm 3 b c,d,cG (LU (fj a) LQ),0,LU (fj a) LQ,()))
def jV:=Gl yo
abbrev yV:bD (λ(a:lP)=>cY (iW 1 a)):=⟨⟩
def pF:cA (lP×Int×Int×lP×Unit):=λ(a,b,c,d,_)=>λe=>gf c b a (yV d) λf=>cQ f λf=>Ef d c λ_=>e (a,b,aq c,uH d c (eU f),())
def vE(L:aY)(p0:PV):oP:=iI 3 p0 λa=>LR (↑a.length:Int) 8 1 (L.run pF (a,cG a,0,LU (fj (cG a)) bK,()))
def mb:=nK vE
def mT(L:aY):cA (TY6):=λ(a,b,c,d,e,_)=>λf=>gf d c b (cY (PV.rm 3 (List.map (λa=>a.fst) e) (List.map (λa=>a.snd.vi) e))) λg=>bE a (iY g 1 g 0 λh i=>(W9 3 (eU h) e).bind λj=>kz j [PV.agg [h,i,g 2]] 24 (f (a,b,c,aq d,eu (eU h) (PV.lJ 3 (j++eS [h,i,g 2])) (Dr (eU h) e),()))) (iY g 0 g 0 λh i=>(W9 3 (eU i) e).bind λj=>kz j [H5 g] 24 (f (a,b,c,aq d,eu (eU h) (PV.lJ 3 (j++[H5 g])) (Dr (eU i) e),())))
def rH(L:aY)(p0 p1:PV):oP:=iI 3 p0 λa=>mcb p1 λb=>L.run (mT L) (b,a,cG a,0,[],())
def jW:=j4 rH
abbrev iZ:bD (λ(a:lP->oP)(b:lP)(c:Nat)(d:lP->oP)=>mcJ a b λa=>iI c a d):=⟨⟩
def qG:cA (Int×PV×Int×Int×lP×Unit):=λ(a,b,c,d,e,_)=>λf=>cP (d<c) (iZ jV [a,b,d] 3 λg=>iZ mb [eT g] 1 λg=>Ef e d λ_=>f (a,b,c,aq d,uH e d (iW 1 g),())) (xE (iW 1 e))
def Fc(L:aY)(p0 p1:PV):oP:=j5 p0 λa=>iI 3 p1 λb=>Dj oS [a,eT b,vM] (F6 (iW 1 []) (mcJ jW [eT b,eV] λb=>dX 3 b (LR a 24 1 (L.run qG (a,PV.sr,cG (LU (fj a) vM),0,LU (fj a) vM,()))) λb c=>LR a 24 1 (L.run qG (a,PV.rm 3 b c,cG (LU (fj a) vM),0,LU (fj a) vM,()))))
def lA:=j4 Fc
abbrev zq7:bD (λ(a:lP)=>a.getD 0 .bad):=⟨⟩
def fP(L:aY):cA (Int×lP×List (PV×PV)×Unit):=λ(a,b,c,_)=>λd=>bE c.isEmpty (mcJ lA [a,eT b] λa=>(bY 2 a).bind λa=>iI 1 (zq7 a) λb=>mcG a 1 λ_=>yV b) (BO c.length λe=>c[e]?.bind λf=>mcA 3 f.fst λ_=>j5 f.snd λg=>iY f.fst 0 f.fst 1 λf h=>kz b [PV.agg [f,h,g]] 24 (d (a,b++eS [f,h,g],c.eraseIdx e,())))
def mU(L:aY):cA (TY7):=λ(a,b,c,d,e,f,_)=>λg=>gf e d c (uG (f.length<=maxLen) (uG ((0:Int)<=0/\0<=(↑f.length:Int)/\(↑f.length:Int).toNat*24<=au/\0<24/\0<3) (L.run (fP L) (a,LU (Int.toNat 0) LQ,f,())))) λh=>gN b (FH h 3 λa=>cw (!a)) (ig (g (a,b,c,d,aq e,f,())) (iY h 0 h 1 λi j=>(RT (cJ [i,j,eV]) f).bind λk=>gX (!(pL (cJ [i,j,eV]) f)) (cM h 2 λa=>bM (a<k)) (ig (cM h 2 λh=>g (a,b,c,d,aq e,eu (cJ [i,j,eV]) (eU h) f,())) (g (a,b,c,d,aq e,f,())))))
def rI(L:aY)(p0 p1 p2:PV):oP:=ij 4 p0 p1 λa b=>mcb p2 λc=>L.run (mU L) (b,c,a,cG a,0,[],())
def gE:=Gl rI
abbrev RV:bD (λ(a:Int)(b:Int->oP)=>(λc=>Cl 1 c 0 λc=>gG c a λ_ a=>b a:PV->oP)):=⟨⟩
abbrev RW:bD (λ(a:lP)(b:PV)(c:Nat)(d e:oP)=>(ig (kz a [b] c d) e:Bool->oP)):=⟨⟩
abbrev ans:bD (λ(a:Int)(b:lP)(c d:Int)(e:TY9->oP)(f g:lP)(h i:Int)(j:lP)(k:Int)(l:lP)=>gN (iw (a>0)) (bM (a<=14400)) (RW b (PV.agg [c,d,a,PV.bool Y]) 32 (e (f,g,c,h,i,j,k,aq d,l++eS [c,d,a,iX],())) (e (f,g,c,h,i,j,k,aq d,l,())))):=⟨⟩
def kJ(L:aY)(Lk:TY8->oP):cA (TY9):=λ(a,b,c,d,e,f,g,h,i,_)=>λj=>qi h g f (Lk (a,b,d,aq e,i,())) λ_ k=>bE (c==h) (j (a,b,c,d,e,f,g,aq h,i,())) (fJ b c (RV h λl=>gN (iw (k>0)) (bM (k<=14400)) (RW i (PV.agg [c,h,k,PV.bool (l==k)]) 32 (bE (l !=k) (ans l (i++[PV.agg [c,h,k,PV.bool (l==k)]]) c h j a b d e f g (i++eS [c,h,k,sA (l==k)])) (j (a,b,c,d,e,f,g,aq h,i++eS [c,h,k,sA (l==k)],()))) (bE (l !=k) (ans l i c h j a b d e f g i) (j (a,b,c,d,e,f,g,aq h,i,()))))))
def kK(L:aY):cA (TY8):=λ(a,b,c,d,e,_)=>λf=>gf d c a (uG (4=4/\e.length<=au/\Nat.blt 175 Pg) ((GO 4 (λ_ a b=>da [a,b]) e).bind λa=>cY (cB a))) λg=>Cl 1 g 0 λg=>L.run (kJ L f) (a,b,d,c,d,g,cG g,0,e,())
def vF(L:aY)(p0 p1:PV):oP:=ij 4 p0 p1 λa b=>iZ gE [cB a,b,eV] 1 λc=>iZ gE [cB a,b,iX] 1 λa=>L.run (kK L) (c,a,cG c,0,[],())
def fU:=j4 vF
def tL:cA (auG):=λ(a,b,c,d,e,_)=>λf=>gf d c b uD λg=>iY g 0 g 1 λh i=>FH g 3 λj=>uZ g λk=>lL (iw (k<0)) d 9 (uZ g λk=>lL (iw (k>=a)) d 9 (cQ g λk=>lL (iw (k<0)) d 9 (cQ g λk=>lL (iw (k>=a)) d 9 (iY g 0 g 1 λk l=>lL (k==l) d 9 (cM g 2 λk=>lL (iw (k<1)) d 2 (cM g 2 λg=>lL (iw (g>14400)) d 2 ((Eh (cJ [h,i,sA j]) e).bind (gJ d 6 (f (a,b,c,aq d,eu (cJ [h,i,sA j]) iX e,()))))))))))
def AM(L:aY)(p0 p1:PV):oP:=ij 4 p0 p1 λa b=>L.run tL (b,a,cG a,0,[],())
def lr:=j4 AM
abbrev UB:bD (λ(a b:Kd)(c:List Kd)(d e:lP)(f:oP)=>uG (rS (a::[].append (Kd.int .i64::[].append (b::[].append c))) d=Y/\rS (a::[].append (Kd.int .i64::[].append (b::[].append c))) e) f):=⟨⟩
abbrev au7:bD (λ(a:lP)(b:Int)(c:lP)(d:Kd)(e:List Kd)(f:PV)(g:lP×lP×Int×Int×Unit->oP)(h:lP×lP×Int×Int×Unit)(i j:PV->lP)=>fJ a b λa=>fJ c b λb=>UB d d e (i a) (j b) (uV (!(cz (i a) (j b))) f (g h))):=⟨⟩
def nZ:cA (lP×lP×Int×Int×Unit):=λ(a,b,c,d,_)=>λe=>cP (d<c) (au7 b d a (Kd.int .i64) (Kd.bool::[].append []) eV e (a,b,c,aq d,()) (λa=>[a 0,a 1,a 2,a 3]) λa=>[a 0,a 1,a 2,a 3]) (u7 Y)
abbrev ZH:bD (λ(a b:Int)=>eU (if a>b then a else b)):=⟨⟩
abbrev SP:bD (λ(a b:lP)=>cG a !=cG b):=⟨⟩
def tM(L:aY)(p0 p1:PV):oP:=ij 4 p0 p1 λa b=>pq (iw (b>64)) (Di lr [cB a,b] λ_ c=>pq (c !=0) (iZ fU [cB a,ZH 0 b] 4 λb=>pq (SP b a) (L.run nZ (a,b,cG b,0,()))))
def kF:=j4 tM
def dE:cA (alB):=λ(a,b,c,d,e,f,g,h,i,j,k,l,m,n,o,p,_)=>λq=>gf c b a (mO kF (yU (cB h) d) (Ej (I4 4 bK 18) (cY LQ))) λr=>iY r 0 r 1 λs t=>FH r 3 λu=>uZ r λv=>F7 ec (yU v d) (cM r 1 λa=>lF ec (yU a d)) (cM r 0 (RU r 1)) (ig (I4 4 c 9) (cM r 2 λv=>fi (v<1) (cM r 2 λa=>bM (a>14400)) (ig (I4 4 c 2) ((Eh (cJ [s,t,bK,sA u]) p).bind (ig (I4 4 c 6) (q (a,b,aq c,d,e,f,g,h,i,j,k,l,m,n,o,eu (cJ [s,t,bK,sA u]) iX p,())))))))
def rB(L:aY)(p0:PV):oP:=Bl p0 λa b c d e f g h i=>L.run dE (e,cG e,0,a,b,c,d,e,f,g,h,i,0,0,0,[],())
def jT:=nK rB
abbrev H9:bD (λ(a:Int)(b:lP)=>bM (a>=(↑b.length:Int))):=⟨⟩
abbrev acg:bD (λ(a:PV)(b:lP)=>([a,cG b,bK,eU 3155932800]:lP)):=⟨⟩
def jU:cA (alB):=λ(a,b,c,d,e,f,g,h,i,j,k,l,m,n,o,p,_)=>λq=>gf c b a (cY LQ) λr=>gd (r 3) λs=>mO iC [sq s] (Ej (I4 2 c 12) (uZ r λs=>fi (s< -1) (cM r 2 λa=>bM (a<0)) (ig (I4 2 c 2) (cQ r λs=>fi (s<0) (cM r 1 λa=>bM (a>36524)) (ig (I4 2 c 11) (cM r 4 λs=>fi (s<0) (cM r 4 λa=>H9 a e) (ig (I4 2 c 9) (Cl 5 r 7 λs=>Di jS (acg (cy s) d) λ_ s=>bE (s !=0) (uE ma [eU 2,c,s] 3 λa=>cY (H5 a)) (gd (r 3) λs=>iY r 1 r 2 λr t=>(Eh (cJ [sq s,r,t]) p).bind (ig (I4 2 c 6) (q (a,b,aq c,d,e,f,g,h,i,j,k,l,m,n,o,eu (cJ [sq s,r,t]) iX p,()))))))))))))
def tO(L:aY)(p0:PV):oP:=Bl p0 λa b c d e f g h i=>bE (SO c 1024) (I4 2 bK 5) (L.run jU (c,cG c,0,a,b,c,d,e,f,g,h,i,0,0,0,[],()))
def kG:=nK tO
def oQ:cA (auH):=λ(a,b,c,d)=>λe=>gf c b a (cY LQ) λf=>cM f 2 λg=>uV (g !=0) (H5 f) (e (a,b,aq c,d))
def CX(L:aY)(p0:PV):oP:=iI 3 p0 λa=>L.run oQ (a,cG a,0,0,0,0,())
def mA:=nK CX
def AH(L:aY)(p0 p1 p2:PV):oP:=aee p0 p1 p2
def cW:=Gl AH
abbrev LV:bD (λ(a:Int)=>(vh a 1000000:lP)):=⟨⟩
abbrev Ek:bD (λ(a:lP->oP)(b c:PV)(d:Int)(e:oP)=>mO a [b] λa=>lL (!a) c d e):=⟨⟩
abbrev amh:bD (λ(a:PV)(b:lP->oP)(c:Int)(d:oP)=>gd (a 0) λa=>Ek b (sq a) c 12 d):=⟨⟩
def vC:cA (SN):=λ(a,b,c,d,_)=>λe=>gf c b a uD λf=>amh f iC c (gd (f 0) λg=>(Eh (sq g) d).bind (gJ c 6 (cQ f λg=>F7 cW (LV g) (cM f 2 λa=>lF cW (H7 a 8)) (cM f 3 λa=>lF cW (H7 a 16)) λg=>gX g (cM f 4 λa=>lF cW (vh a 86400)) λg=>gX g (cM f 5 λa=>lF cW (H7 a 255)) (gJ c 2 (gd (f 0) λf=>e (a,b,aq c,eu (sq f) iX d,()))))))
abbrev xF:bD (λ(a:lP)(b:Int)(c:oP)=>lL (SO a b) bK 5 c):=⟨⟩
def CS(L:aY)(p0:PV):oP:=ajS p0 λa b c d=>F7 cW (LV b) (lF cW (vh c 86400)) (lF cW (LV d)) (gJ (eU (-1)) 2 (xF a 16 (L.run vC (a,cG a,0,[],()))))
def mz:=nK CS
def Ha(L:aY)(p0:PV):oP:=j5 p0 λa=>OA a (a<8)
def CR:=nK Ha
abbrev ajU:bD (λ(a:SN)(b:Bytes)=>((a.1,a.2.1,aq a.2.2.1,eu (PV.str b) iX a.2.2.2.1,()):lP×Int×Int×List (PV×PV)×Unit)):=⟨⟩
abbrev arc:bD (λ(a:Nat)(b:SN->(SN->oP)->PV->Int->oP)=>(λc d=>gf c.2.2.1 c.2.1 c.1 (L8 [bK,bK]) λe=>amh e iC c.2.2.1 ((bU (e 0)).bind λf=>(Eh (sq f) c.2.2.2.1).bind (gJ c.2.2.1 6 (cM e a (b c d e)))):SN->(SN->oP)->oP)):=⟨⟩
def AG:cA (SN):=arc 1 λa b c d=>Ek CR d a.2.2.1 2 (gd (c 0) λc=>b (ajU a c))
abbrev ajV:bD (λ(a:Nat)(b:PV)(c:aY)(d:cA SN)=>iI a b λa=>xF a 64 (c.run d (a,cG a,0,[],()))):=⟨⟩
def G9(L:aY)(p0:PV):oP:=ajV 3 p0 L AG
def pV:=nK G9
def CQ:cA (SN):=arc 1 λa b c d=>fi (d<0) (cM c 1 λa=>bM (a>=16)) λd=>gX d (cM c 3 λa=>bM (a<0)) λd=>gX d (cM c 3 λa=>bM (a>3600)) (gJ a.2.2.1 2 (gd (c 0) λc=>b (ajU a c)))
def J1(L:aY)(p0:PV):oP:=ajV 4 p0 L CQ
def tG:=nK J1
abbrev aeg:bD (λ(a:PV)=>uZ a λb=>iY a 1 a 2 λa c=>L8 [b,a,c]):=⟨⟩
abbrev ami:bD (λ(a:lP)(b c d:Int)(e f g h i:lP)=>Di mz (eS [iW 6 a,b,c,d]) λj k=>uE jT [Bm e f g h i a b c d] 3 λa=>uE ma [eU 5,j,k] 3 λb=>mcJ mA [eT [H5 a,H5 b]] λa=>aq8 a λa b c=>L8 [a,b,c]):=⟨⟩
def CY(L:aY)(p0:PV):oP:=Bl p0 λa b c d e f g h i=>Di tG [cB a] λj k=>Di pV [eT b] λl m=>uE ma [bK,j,k] 3 λj=>uE ma [eU 1,l,m] 3 λk=>uE mA [eT [H5 j,H5 k]] 3 λj=>cM j 2 λk=>bE (k==0) (uE kG [Bm a b c d e f g h i] 3 λj=>cM j 2 λk=>bE (k==0) (uE gD [Bm a b c d e f g h i] 3 λj=>cM j 2 λk=>bE (k==0) (ami f g h i a b c d e) (aeg j)) (cM j 2 λk=>bE (k==0) (ami f g h i a b c d e) (aeg j))) (cM j 2 λk=>bE (k==0) (uE gD [Bm a b c d e f g h i] 3 λj=>cM j 2 λk=>bE (k==0) (ami f g h i a b c d e) (aeg j)) (cM j 2 λk=>bE (k==0) (ami f g h i a b c d e) (aeg j)))
def qF:=nK CY
abbrev RX:bD (λ(a:Nat)(b:PV)(c:Nat)(d:lP->PV)=>iI a b λb=>kz [] b c (uG (0<=(↑([]++b).length:Int)/\(↑([]++b).length:Int)<=(↑([]++b).length:Int)/\(↑([]++b).length:Int)<=(↑([]++b).length:Int)/\a=a) (cY (d b)))):=⟨⟩
abbrev ach:bD (λ(a:lP)=>(List.take (↑([]++a).length:Int).toNat ([]++a):lP)):=⟨⟩
def q7(L:aY)(p0:PV):oP:=RX 5 p0 32 λa=>cy (ach a)
def eR:=nK q7
def lZ(L:aY)(p0:PV):oP:=RX 4 p0 32 λa=>cB (ach a)
def dA:=nK lZ
def q8(L:aY)(p0:PV):oP:=RX 5 p0 40 λa=>cy (ach a)
def eQ:=nK q8
def mR(L:aY)(p0:PV):oP:=RX 6 p0 56 λa=>iW 6 (ach a)
def dL:=nK mR
def pA(L:aY)(p0:PV):oP:=RX 3 p0 32 λa=>eT (ach a)
def ey:=nK pA
abbrev fR:bD (λ(a:lP)=>iW 8 a):=⟨⟩
def sS(L:aY)(p0:PV):oP:=RX 8 p0 80 λa=>fR (ach a)
def fv:=nK sS
def q9(L:aY)(p0:PV):oP:=RX 4 p0 40 λa=>cB (ach a)
def eP:=nK q9
def ug:cA (auX):=λ(a,b,c,d,e,f,g,h,i,j)=>λk=>gf c b a (L8 [bK,eV]) λl=>gd (l 3) λm=>gN (m==i) (cM l 1 λa=>cw (a==j.1)) λm=>gN m (cM l 2 λa=>cw (a==j.2.1)) λl=>uV l (PV.b8 [c,iX]) (k (a,b,aq c,d,e,f,g,h,i,j))
def ub(L:aY)(p0 p1:PV):oP:=Bl p0 λ_ _ a _ _ _ _ _ _=>Bk p1 λb c d e f g h i j k l m n=>L.run ug (a,cG a,0,b,c,d,e,f,g,h,i,j,k,l,m,n,())
def fW:=j4 ub
abbrev ajW:bD (λ(a b:lP)=>(List.take (LU (cG a).toNat (cJ [bK,bK,bK,eV,eV])).length b++List.drop b.length (LU (cG a).toNat (cJ [bK,bK,bK,eV,eV])):lP)):=⟨⟩
def CA(L:aY)(p0:PV):oP:=iI 5 p0 λa=>LR (↑a.length:Int) 32 5 (cY (cy (ajW a a)))
def jB:=nK CA
abbrev Ju:bD (λ(a:PV)(b:Int)=>j5 a λa=>cw (b==a)):=⟨⟩
def sT(L:aY)(p0:PV)(c1:PV):oP:=mcA 5 p0 λ_=>iY p0 0 p0 1 λa _=>iY p0 2 p0 3 λb _=>FH p0 4 λ_=>j5 c1 λc=>gX (a==c) (Ju c1 b) λa=>u7 a
def fA:=mw6 sT
abbrev ant:bD (λ(a b:Int)(c d e f:lP)=>(λg=>cP (a<b) (au7 c a d (Kd.int .i64) (Kd.bool::[].append (Kd.bool::[].append [])) eV g (e,f,b,aq a,()) (λa=>[a 0,a 1,a 2,a 3,a 4]) λa=>[a 0,a 1,a 2,a 3,a 4]) (u7 Y):(lP×lP×Int×Int×Unit->oP)->oP)):=⟨⟩
def js:cA (lP×lP×Int×Int×Unit):=λ(a,b,c,d,_)=>ant d c a b a b
def l5(L:aY)(p0 p1:PV):oP:=uF 5 p0 5 p1 λa b=>pq (SP a b) (L.run js (a,b,cG a,0,()))
def gh:=j4 l5
def EO(L:aY)(p0 p1:PV):oP:=acd p0 λa b c d e f g h=>acd p1 λi j k l m n o p=>gX (a !=i) (cw (b !=j)) λa=>gX a (cw (c !=k)) (uB (cw (!(d==l))) eV (gN (e==m) (cw (f==n)) λa=>gN a (cw (g==o)) λa=>yK a (od gh [cy h,cy p])))
def td:=j4 EO
abbrev gH:bD (λ(a:Int)=>([eU a]:lP)):=⟨⟩
def rr(L:aY):cA (auY):=λ(a,b,c,d,e,f,g,h,i,j,k,l,m,n,o,p,q,r,s,t,u,v)=>λw=>cP (b<a) (fi (b>=(↑e.length:Int)) (H9 b n) λx=>gX x (fJ e b λa=>fJ n b λb=>lF td [WL a,WL b]) (RW u (PV.int .i64 b) 8 (w (a,aq b,c,d,e,f,g,h,i,j,k,l,m,n,o,p,q,r,s,t,u++gH b,())) (w (a,aq b,c,d,e,f,g,h,i,j,k,l,m,n,o,p,q,r,s,t,u,v)))) (yV u)
def xV(L:aY)(p0 p1:PV):oP:=Bl p0 λa b c d e f g h i=>Bl p1 λj k l m n o p q r=>L.run (rr L) (if(↑l.length:Int)>(↑c.length:Int)then cG l else cG c,0,a,b,c,d,e,f,g,h,i,j,k,l,m,n,o,p,q,r,[],())
def jN:=j4 xV
abbrev agp:bD (λ(a:PV)(b:oP)(c:Int->lP->lP->lP->lP->lP->lP->Int->Int->Int->Int->oP)(d:PV->Int->lP->lP->lP->lP->lP->lP->Int->Int->Int->Int->oP)=>mZ 12 a b λa=>mZ 3 (match a.cells[0]? with|some x=>x|none=>.bad) (cQ a λb=>Cl 4 a 2 λd=>Cl 3 a 3 λe=>Cl 8 a 4 λf=>Cl 5 a 5 λg=>Cl 4 a 6 λh=>Cl 6 a 7 λi=>iY a 8 a 9 λj k=>iY a 10 a 11 (c b d e f g h i j k)) λb=>cQ a λc=>Cl 4 a 2 λe=>Cl 3 a 3 λf=>Cl 8 a 4 λg=>Cl 5 a 5 λh=>Cl 4 a 6 λi=>Cl 6 a 7 λj=>iY a 8 a 9 λk l=>iY a 10 a 11 (d b c e f g h i j k l)):=⟨⟩
def Jr(L:aY)(p0:PV):oP:=agp p0 (cY bK) (λ_ _ _ _ _ _ _ _ _ _ a=>cY a) λ_ _ _ _ _ _ _ _ _ _ _ a=>cY a
def ye:=nK Jr
abbrev ard:bD (λ(a:lP)(b:Int)(c:PV)(d:Int)(e:PV)(f g:Int)=>(kA (kA a b (c 0::eU d::over [] [c 2,c 3,c 4])) b (e 0::e 1::ZH (cF (d+f)) g::over [] [e 3,e 4]):lP)):=⟨⟩
abbrev anu:bD (λ(a:Int)(b:lP)(c:PV)(d:Int)(e:PV)(f g:Int)(h:PV->oP)=>zz a ((b.set a.toNat (PV.agg (c 0::PV.int .i64 d::over [] [c 2,c 3,c 4]))).set a.toNat (PV.agg (e 0::e 1::PV.int .i64 (if cF (d+f)>g then cF (d+f)else g)::over [] [e 3,e 4]))) (ard b a c d e f g) h):=⟨⟩
abbrev ep:bD (λ(a:Int)(b:lP)(c d:oP)=>cP (a<(↑b.length:Int)) c d):=⟨⟩
abbrev mE:bD (λ(a:lP)(b:Int)(c:oP)=>kz a [PV.int .i64 b] 8 c):=⟨⟩
abbrev agq:bD (λ(a:lP)(b:Int)(c:lP)(d:PV)=>(uH a b (if 8=1 then PV.lJ 5 c else cJ (d 0::d 1::d 2::d 3::d 4::d 5::d 6::PV.lJ 5 c::over [] [])):lP)):=⟨⟩
abbrev W7:bD (λ(a:lP)(b:Int)(c d:Nat)(e:Int)(f:PV->lP->PV->oP)=>a[fj b]?.bind λg=>(fZ c (g d)).bind λg=>uG (aU e g.length) (a[fj b]?.bind λa=>(fZ c (a d)).bind λb=>b[fj e]?.bind (f a b))):=⟨⟩
abbrev arf:bD (λ(a:Int)(b:lP)(c:PV)(d:Int)(e:PV->oP)=>zz a (b.set a.toNat (PV.agg (c 0::PV.int .i64 d::over [] [c 2,c 3,c 4]))) (kA b a (c 0::eU d::over [] [c 2,c 3,c 4])) e):=⟨⟩
def iS(L:aY)(iD:aec->oP):cA (auZ):=λ(a,b,c,d,e,f,g,h,i,j,k,l,m,n,o,p,q,r,s,t,u)=>λv=>cP (e<d) (cP (e<b) (v ((↑(fj a):Int),b,c,d,aq e,f,g,h,i,j,k,l,m,n,o,p,q,r,s,t,u)) (W7 k a 5 7 e λ_ _ w=>Ef l e λx=>cM w 2 λy=>Dj wu [LP w] λz=>arf e l x c λA=>anu e l x c A z y λB=>cM B 2 λB=>cP (B>3155932800) (mE s 10 (iD (g,h,i,aq j,p,q,r,m,n,o,s++gH 10,t,u.1,k,u.2))) (k[fj a]?.bind λB=>(fZ 5 (B 7)).bind λB=>ep (cF (e+1)) B (W7 k a 5 7 (cF (e+1)) λ_ _ B=>cQ B λB=>anu e l x c A z y λC10=>iY C10 2 w 2 λw C10=>v ((↑(fj a):Int),b,cF (cF (B+w)-C10),d,aq e,f,g,h,i,j,k,ard l e x c A z y,m,n,o,p,q,r,s,t,u)) (v ((↑(fj a):Int),b,c,d,aq e,f,g,h,i,j,k,ard l e x c A z y,m,n,o,p,q,r,s,t,u))))) (Ef k f λa=>mE s 0 (iD (g,h,i,aq j,p,q,r,m,n,o,s++gH 0,t,u.1,agq k f l a,u.2)))
def uj(L:aY)(iD:aec->oP):cA (ano):=λ(a,b,c,d,e,f,g,h,i,j,k,l,m,n,o,p)=>λq=>ep b g (Ef g b λr=>mO fA [LP r,ky [h]] (Ej (Ef g a λ_=>q (aq a,aq b,c,d,e,f,uH g a (LP r),h,i,j,k,l,m,n,o,p)) (q (a,aq b,c,d,e,f,g,h,i,j,k,l,m,n,o,p)))) (ZG 0 a (↑g.length:Int) g (5=5) (uG (5=5/\108=108/\a.toNat+((↑g.length:Int).toNat-a.toNat)<=g.length/\0<5) (ZG (0:Int) 0 a (List.take a.toNat g++(List.replicate ((↑g.length:Int).toNat-a.toNat) (PV.agg [PV.int .i64 0,PV.int .i64 0,PV.int .i64 0,PV.int .i64 0,PV.bool J])++List.drop (a.toNat+((↑g.length:Int).toNat-a.toNat)) g)) (5=5) (mE o 0 (iD (c,d,e,aq f,l,m,n,i,j,k,o++gH 0,p.1,p.2.1,p.2.2.1,List.take (fj a-Int.toNat 0) (List.take (fj a) g++(LU (fj (cG g)-fj a) (cJ [bK,bK,bK,bK,eV])++List.drop (fj a+(fj (cG g)-fj a)) g)),p.2.2.2))))))
def ui(L:aY)(iD:aec->oP):cA (ano):=λ(a,b,c,d,e,f,g,h,i,j,k,l,m,n,o,p,q,r)=>λs=>cP (b<a) (Ef g b λt=>mO fA [LP t,ky [h]] (ig (bE (b==-1) (mE o 0 (iD (c,d,e,aq f,l,m,n,i,j,k,o++gH 0,p,q,r.1,g,r.2))) (L.run (uj L iD) (b,aq b,c,d,e,f,g,h,i,j,k,l,m,n,o,p,q,r))) (s (a,aq b,c,d,e,f,g,h,i,j,k,l,m,n,o,p,q,r)))) (mE o 0 (iD (c,d,e,aq f,l,m,n,i,j,k,o++gH 0,p,q,r.1,g,r.2)))
abbrev OE:bD (λ(a:lP)=>(sA Y::over [] a:lP)):=⟨⟩
abbrev OT:bD (λ(a:lP)(b:Int)(c:PV)(d:lP)(e:Int)(f:PV)(g:Nat)=>(uH a b (setRow 8 c 7 (PV.lJ 5 (uH d e (setCells 5 f g 1 eV)))):lP)):=⟨⟩
abbrev aci:bD (λ(a b c d e f:lP)(g h i:Int)=>([iW 4 a,eT b,fR (List.map PV.strip c),cy d,iW 4 e,iW 6 f,g,h,i]:lP)):=⟨⟩
abbrev arh:bD (λ(a:lP)(b c:Int)(d:lP)(e:PV->lP->PV->oP)=>W7 a b 5 7 c λf g h=>zz b (d.set b.toNat (setRow 8 f 7 (PV.lJ 5 (g.set c.toNat (setCells 5 h 3 1 (PV.bool J)))))) (OT a b f g c h 3) λa=>(fZ 5 (a 7)).bind λ_=>e f g h):=⟨⟩
abbrev SQ:bD (λ(a:lP)(b:Int)(c d:Nat)(e:oP)=>Ef a b λa=>(fZ c (a d)).bind λ_=>e):=⟨⟩
def ob(L:aY):cA (aec):=λ(a,b,c,d,e,f,g,h,i,j,k,l,m,n,o)=>λp=>gf d c a (L8 [cJ (aci l m n o.1 o.2.1 o.2.2.1 h i j),iW 1 k]) λq=>Dj fF [Bj q] λq=>bE (b !=0) (mE k 21 (p (a,b,c,aq d,e,f,g,h,i,j,k++gH 21,l,m,n,o))) (bE (q==0) (fJ a d λq=>Nr fW [cJ (aci l m n o.1 o.2.1 o.2.2.1 h i j),Bj q] λr s=>cM q 4 λt=>bE (t==5) (bE s (mE k 6 (p (a,b,c,aq d,e,f,g,h,i,j,k++gH 6,l,m,n,o))) (cM q 10 λr=>fi (r<0) (cM q 10 λa=>H9 a m) (RW k (PV.int .i64 14) 8 (p (a,b,c,aq d,e,f,g,h,i,j,k++gH 14,l,m,n,o)) (Cl 5 q 12 λr=>Di jS (acg (cy r) l) λ_ r=>bE (r !=0) (mE k r (p (a,b,c,aq d,e,f,g,h,i,j,k++gH r,l,m,n,o))) (cP ((↑n.length:Int)>=1024) (mE k 5 (p (a,b,c,aq d,e,f,g,h,i,j,k++gH 5,l,m,n,o))) (iY q 6 q 7 λr s=>gd (q 5) λt=>cM q 10 λu=>FH q 11 λv=>Cl 5 q 12 λq=>iZ jB [cy q] 5 λq=>uG ((n++[PV.agg [PV.int .i64 (-1),r,s,PV.str t,u,PV.bool v,PV.bool J,PV.lJ 5 q]]).length*80<=au) (mE k 0 (p (a,b,c,aq d,e,f,g,h,i,j,k++gH 0,l,m,n++eS [eU (-1),r,s,sq t,u,sA v,eV,PV.lJ 5 q],o))))))))) (bE (!s) (mE k 16 (p (a,b,c,aq d,e,f,g,h,i,j,k++gH 16,l,m,n,o))) (cM q 4 λs=>gX (s==1) (cM q 4 λa=>cw (a==3)) λs=>gN s (cM q 8 λa=>Jt (iw (a<0)) (cM q 8 λa=>Ef n r λb=>(fZ 5 (b 7)).bind λ_=>n[fj r]?.bind λb=>(fZ 5 (b 7)).bind λb=>H9 a b)) (RW k (PV.int .i64 9) 8 (p (a,b,c,aq d,e,f,g,h,i,j,k++gH 9,l,m,n,o)) (cM q 4 λs=>bE (s==1) (SQ n r 5 7 (iY q 8 q 9 λq s=>fi (q<0) (n[fj r]?.bind λa=>(fZ 5 (a 7)).bind λa=>H9 q a) (RW k (PV.int .i64 1) 8 (p (a,b,c,aq d,e,f,g,h,i,j,k++gH 1,l,m,n,o)) (Eg s (-43200) 43200 (RW k (PV.int .i64 2) 8 (p (a,b,c,aq d,e,f,g,h,i,j,k++gH 2,l,m,n,o)) (((n[fj r]?.bind λa=>akz (a 7)).bind λa=>U [a]).bind λt=>(qK t).bind λt=>mcb t (Ej (mE k 10 (p (a,b,c,aq d,e,f,g,h,i,j,k++gH 10,l,m,n,o))) (n[fj r]?.bind λt=>(fZ 5 (t 7)).bind λt=>LR (↑t.length:Int) 32 5 (n[fj r]?.bind λu=>(fZ 5 (u 7)).bind λu=>cP (q>0) (W7 n r 5 7 (cF (q-1)) λ_ _ v=>cM v 2 λv=>W7 n r 5 7 q λ_ _ w=>cQ w λw=>n[fj r]?.bind λx=>(fZ 5 (x 7)).bind λx=>L.run (iS L p) ((↑(fj r):Int),q,if v>cF (w+s)then v else cF (w+s),cG x,0,r,a,b,c,d,n,ajW t u,h,i,j,e,f,g,k,l,m,o)) (W7 n r 5 7 q λ_ _ v=>cQ v λv=>n[fj r]?.bind λw=>(fZ 5 (w 7)).bind λw=>L.run (iS L p) ((↑(fj r):Int),q,if 0>cF (v+s)then 0 else cF (v+s),cG w,0,r,a,b,c,d,n,ajW t u,h,i,j,e,f,g,k,l,m,o))))))))))) (bE (s==2) (Ef n r λq=>mE k 0 (p (a,b,c,aq d,e,f,g,h,i,j,k++gH 0,l,m,kA n r (q 0::q 1::q 2::q 3::q 4::q 5::OE [q 7]),o))) (bE (s==3) (SQ n r 5 7 (cM q 8 λs=>arh n r s n λt u v=>cM q 8 λq=>W7 (OT n r t u s v 3) r 5 7 q λw x y=>mE k 0 (p (a,b,c,aq d,e,f,g,h,i,j,k++gH 0,l,m,OT (OT n r t u s v 3) r w x q y 4,o)))) (bE (s==4) (Cl 5 q 12 λs=>Di jS (acg (cy s) l) λ_ s=>bE (s !=0) (mE k s (p (a,b,c,aq d,e,f,g,h,i,j,k++gH s,l,m,n,o))) (Cl 5 q 12 λq=>iZ jB [cy q] 5 λq=>Ef n r λs=>L.run (ui L p) ((↑o.1.length:Int),0,a,b,c,d,o.1,r,h,i,j,e,f,g,k,l,m,agq n r q s,o.2))) (mE k 0 (p (a,b,c,aq d,e,f,g,h,i,j,k++gH 0,l,m,n,o))))))))))) (mE k q (p (a,b,c,aq d,e,f,g,h,i,j,k++gH q,l,m,n,o))))
def Ba(L:aY):cA (au0):=λ(a,b,c,d,e,f,g,h,i,j,k,l,m,n,o,p,q,r,s,t,u,v,w,x,y,z,A,B,C10,D,E,F,G,H,I10)=>λK=>cP (b<a) (Ef H b (H8 7 λL=>iZ eR [cy L] 5 λL=>Ef H b λM=>K (a,aq b,c,d,e,f,g,h,i,j,k,l,m,n,o,p,q,r,s,t,u,v,w,x,y,z,A,B,C10,D,E,F,G,agq H b L M,I10))) (iZ dL [iW 6 i] 6 λa=>acb qF [Bm t u v w x y z A B] λ_ _ b=>L.run (ob L) (c,b,cG c,0,C10,D,E,q,r,s,[],F,G,H,I10.1,I10.2.1,a,()))
def Hr(L:aY)(p0 p1:PV):oP:=Bl p0 λa b c d e f g h i=>iI 13 p1 λj=>iZ eP [cB a] 4 λk=>iZ ey [eT b] 3 λl=>iZ fv [fR c] 8 λm=>iZ eQ [cy d] 5 λn=>iZ dA [cB e] 4 λo=>L.run (Ba L) (cG m,0,j,a,b,c,d,e,f,g,h,i,0,0,0,f,g,h,i,a,b,c,d,e,f,g,h,i,0,0,0,k,l,m,n,o,())
def ke:=j4 Hr
def vz:cA (auM):=λ(a,b,c,d,e,f,g,h,i,j,k,l,m,n,o,p,q,r,s,t,u,v)=>λw=>cP (b<a) (Ef u b (H8 7 λx=>iZ eR [cy x] 5 λx=>Ef u b λy=>w (a,aq b,c,d,e,f,g,h,i,j,k,l,m,n,o,p,q,r,s,t,agq u b x y,v))) (iZ dL [iW 6 h] 6 λa=>cY (cJ (aci s t u v.1 v.2.1 a p q r)))
def CK(L:aY)(p0:PV):oP:=Bl p0 λa b c d e f g h i=>iZ eP [cB a] 4 λj=>iZ ey [eT b] 3 λk=>iZ fv [fR c] 8 λl=>iZ eQ [cy d] 5 λm=>iZ dA [cB e] 4 λn=>L.run vz (cG l,0,a,b,c,d,e,f,g,h,i,0,0,0,f,g,h,i,j,k,l,m,n,())
def jA:=nK CK
def tv:cA (lP×lP×Int×Unit):=λ(a,b,c,_)=>λd=>ep c a (gG a c λ_ e=>gG b c λ_ f=>pq (e !=f) (d (a,b,aq c,()))) (u7 Y)
abbrev aeh:bD (λ(a:Nat)(b c:PV)(d:aY)(e:cA (lP×lP×Int×Unit))=>uF a b a c λa b=>pq (SP a b) (d.run e (a,b,0,()))):=⟨⟩
def As(L:aY)(p0 p1:PV):oP:=aeh 1 p0 p1 L tv
def lh:=j4 As
abbrev ajX:bD (λ(a:Int)(b c:lP)(d e:Kd)(f:List Kd)(g:oP)(h i:PV->lP)(j:PV->PV->oP)=>ep a b (fJ b a λb=>fJ c a λa=>UB d (Kd.int .i64) (e::[].append f) (h b) (i a) (j b a)) g):=⟨⟩
def rE:cA (aw3):=λ(a,b,c)=>λd=>ajX a b c.2.2.2.1 Kd.str (Kd.int .i64) (Kd.int .i64::[].append (Kd.int .i64::[].append [])) (u7 Y) (λa=>[a 0,a 1,a 2,a 3,a 4,a 5]) (λa=>[a 0,a 1,a 2,a 3,a 4,a 5]) λe f=>pq (!(cz [e 0,e 1,e 2,e 3,e 4,e 5] [f 0,f 1,f 2,f 3,f 4,f 5])) (d (aq a,b,c))
def yn(L:aY)(p0 p1:PV):oP:=ajS p0 λa b c d=>ajS p1 λe f g h=>gX (SP a e) (cw (b !=f)) λi=>gX i (cw (c !=g)) (uB (cw (d !=h)) eV (L.run rE (0,a,b,c,d,e,f,g,h,())))
def nk:=j4 yn
abbrev axk:bD (λ(a:lP)(b:Int)(c:Kd)(d:List Kd)(e:PV)(f:lP×lP×Int×Unit->oP)(g:lP×lP×Int×Unit)(h i:PV->lP)=>(λj=>fJ a b λa=>UB c c d (h j) (i a) (uV (!(cz (h j) (i a))) e (f g)):PV->oP)):=⟨⟩
abbrev au8:bD (λ(a:Int)(b c:lP)=>(λd=>ep a b (fJ b a (axk c a (Kd.int .i64) (Kd.bool::[].append (Kd.bool::[].append [])) eV d (b,c,aq a,()) (λa=>[a 0,a 1,a 2,a 3,a 4]) λa=>[a 0,a 1,a 2,a 3,a 4])) (u7 Y):(lP×lP×Int×Unit->oP)->oP)):=⟨⟩
def rD:cA (lP×lP×Int×Unit):=λ(a,b,c,_)=>au8 c a b
def yj(L:aY)(p0 p1:PV):oP:=aeh 5 p0 p1 L rD
def nj:=j4 yj
def tS:cA (lP×lP×Int×Unit):=λ(a,b,c,_)=>λd=>ep c a (fJ a c λe=>fJ b c λf=>iY e 0 f 0 λg h=>gX (g !=h) (cM e 1 λa=>cM f 1 λb=>cw (a !=b)) λg=>gX g (cM e 2 λa=>cM f 2 λb=>cw (a !=b)) λg=>gX g ((bU (e 3)).bind λa=>(bU (f 3)).bind λb=>cw (!(a==b))) λg=>gX g (cM e 4 λa=>cM f 4 λb=>cw (a !=b)) λg=>gX g (FH e 5 λa=>FH f 5 λb=>cw (!(a==b))) λg=>gX g (FH e 6 λa=>FH f 6 λb=>cw (!(a==b))) (uB (Cl 5 e 7 λa=>Cl 5 f 7 λb=>lF nj [cy a,cy b]) eV (d (a,b,aq c,())))) (u7 Y)
def AQ(L:aY)(p0 p1:PV):oP:=aeh 8 p0 p1 L tS
def lv:=j4 AQ
def lx:cA (amg):=λ(a,b,c,d,e,f,g,h,i,j,k,l,m,n,o,p,q,r)=>λs=>ajX a f o (Kd.int .i64) Kd.bool [] (mO lv [fR d,fR m] λa=>yK a (od nk [cJ [iW 6 g,h,i,j],cJ [iW 6 p,q,r.1,r.2.1]])) (λa=>[a 0,a 1,a 2,a 3]) (λa=>[a 0,a 1,a 2,a 3]) λt u=>pq (!(cz (RS t) (RS u))) (s (aq a,b,c,d,e,f,g,h,i,j,k,l,m,n,o,p,q,r))
def ly(L:aY):cA (amg):=λ(a,b)=>λc=>gf a (↑b.2.2.2.1.length:Int) b.2.2.2.1 (L.run lx (0,b)) λd=>fJ b.2.2.2.2.2.2.2.2.2.2.2.2.1 a λe=>UB (Kd.int .i64) (Kd.int .i64) (Kd.int .i64::[].append (Kd.bool::[].append [])) [d 0,d 1,d 2,d 3,d 4] [e 0,e 1,e 2,e 3,e 4] (pq (!(cz [d 0,d 1,d 2,d 3,d 4] [e 0,e 1,e 2,e 3,e 4])) (c (aq a,b)))
def lz(L:aY):cA (amg):=λ(a,b)=>λc=>gf a (↑b.2.1.length:Int) b.2.1 (L.run (ly L) (0,b)) λd=>fJ b.2.2.2.2.2.2.2.2.2.2.1 a λe=>UB Kd.str Kd.bool [] [d 0,d 1,d 2] [e 0,e 1,e 2] (pq (!(cz [d 0,d 1,d 2] [e 0,e 1,e 2])) (c (aq a,b)))
def tT(L:aY):cA (amg):=λ(a,b)=>λc=>gf a (↑b.1.length:Int) b.1 (L.run (lz L) (0,b)) λd=>fJ b.2.2.2.2.2.2.2.2.2.1 a λe=>UB Kd.str Kd.bool (Kd.int .i64::[].append []) [d 0,d 1,d 2,d 3] [e 0,e 1,e 2,e 3] (pq (!(cz (RS d) (RS e))) (c (aq a,b)))
def Hm(L:aY)(p0 p1:PV):oP:=Bl p0 λa b c d e f g h i=>Bl p1 λj k l m n o p q r=>gX (SP a j) (cw (SP b k)) λs=>gX s (cw (SP d m)) (uB (cw (SP e n)) eV (L.run (tT L) (0,a,b,c,d,e,f,g,h,i,j,k,l,m,n,o,p,q,r,())))
def pW:=j4 Hm
def vr(L:aY):cA (au1):=λ(a,b,c,d,e,f,g,h,i,j,k,l,m,n,o,p,q,r,s,t,u)=>λv=>fi (a<(↑d.length:Int)) (bM (a<(↑m.length:Int))) (ig (fi (a>=(↑d.length:Int)) (H9 a m) λw=>gX w (if 0<=a/\a<=cF (a+1)/\cF (a+1)<=(↑d.length:Int)/\8=8/\8≠0 then if 0<=a/\a<=cF (a+1)/\cF (a+1)<=(↑m.length:Int)/\8=8/\8≠0 then lF lv [fR (List.drop (fj a) (List.take (fj (aq a)) d)),fR (List.drop (fj a) (List.take (fj (aq a)) m))]else Z else Z) (RW t (PV.int .i64 a) 8 (v (aq a,b,c,d,e,f,g,h,i,j,k,l,m,n,o,p,q,r,s,t++gH a,())) (v (aq a,b,c,d,e,f,g,h,i,j,k,l,m,n,o,p,q,r,s,t,u)))) (yV t))
def CE(L:aY)(p0 p1:PV):oP:=Bl p0 λa b c d e f g h i=>Bl p1 λj k l m n o p q r=>L.run (vr L) (0,a,b,c,d,e,f,g,h,i,j,k,l,m,n,o,p,q,r,[],())
def qv:=j4 CE
end
end Go.Ab
set_option maxHeartbeats 4000000
namespace Go.Ab
noncomputable section
abbrev au9:=Int×yJ (xD (lP×lP×Int×lP×Unit))
abbrev ava:=fI (lP×lP×Oy Unit)
abbrev anv:=fI (al9 Unit)
abbrev avb:=xD (al9 (Oy Unit))
abbrev avc:=Int×yJ (LO (Int×Int×Bytes×xD (Int×Bool×lP×Unit)))
abbrev avd:=lP×Int×Int×yJ (lP×LO (Int×Int×Bytes×xD (Int×Bool×lP×fI (yJ (fI Unit)))))
abbrev ave:=lP×Int×al8 (fI (lP×Unit))
def ET(L:aY)(p0 p1 p2:PV):oP:=agn p0 λa b _=>iV p1 p2 λc d=>I3 (iw (c<0)) (H9 c b) eV (gG b c λ_ b=>fi (b<0) (zy (iw (d>b)) (bM (IntKind.u64.wrap (IntKind.u64.wrap d-IntKind.u64.wrap b)>IntKind.u64.wrap a))) λa=>u7 a)
def nV:=Gl ET
abbrev Ia:bD (λ(a:Int)(b c:lP)=>cJ [a,iW 2 b,iW 13 c]):=⟨⟩
def yf(L:aY):cA (au9):=λ(a,b,c,d,e,f,g,h,i,j,k,l,m,n,o,p)=>λq=>ep a l (mO nV [Ia k l m,a,n] (RW o (PV.int .i64 a) 8 (q (aq a,b,c,d,e,f,g,h,i,j,k,l,m,n,o++gH a,())) (q (aq a,b,c,d,e,f,g,h,i,j,k,l,m,n,o,p)))) (yV o)
def EX(L:aY)(p0:PV):oP:=ace p0 λa b c d e f g h i j k l m=>L.run (yf L) (0,a,b,c,d,e,f,g,h,i,j,k,l,m,[],())
def tu:=nK EX
def vt(L:aY)(p0 p1:PV):oP:=Bk p0 λ_ _ _ _ _ a b c _ _ _ _ _=>Bk p1 λ_ _ _ _ _ d e f _ _ _ _ _=>gN (a==d) (cw (b==e)) λa=>yK a (cw (c==f))
def iN:=j4 vt
def CF(L:aY)(p0 p1 p2:PV):oP:=agn p0 λa b c=>Bk p1 λd _ e f _ _ _ _ _ _ _ _ _=>j5 p2 λg=>gN (iw (e<=g)) (bM (f>g)) λe=>yK e (lF nV [Ia a b c,d,g])
def mr:=Gl CF
def qw:cA (ava):=λ(a,b,c,d,e,f,g,h,i,j,k,l,m,n,o,p,q,r)=>λs=>ep b e (gG e b λt u=>j5 f λv=>gN (iw (u<v)) (od iN [Bj t,cJ [f,g,h,i,j,k,l,m,n,o,p,q,r.1]]) λu=>gN u (od mr [Ia c d e,Bj t,a]) λt=>pq t (s (a,aq b,c,d,e,f,g,h,i,j,k,l,m,n,o,p,q,r))) (mO mr [Ia c d e,cJ [f,g,h,i,j,k,l,m,n,o,p,q,r.1],a] λa=>u7 a)
def EU(L:aY)(p0 p1 p2:PV):oP:=agn p0 λa b c=>iV p1 p2 λd e=>fJ c d λd=>L.run qw (e,0,a,b,c,d 0,d 1,d 2,d 3,d 4,d 5,d 6,d 7,d 8,d 9,d 10,d 11,d 12,())
def th:=Gl EU
def ES(L:aY)(p0 p1:PV):oP:=Bk p0 λ_ a _ _ _ b c d _ _ _ _ _=>anq p1 b c d a
def tg:=j4 ES
abbrev ajY:bD (λ(a:Int)(b:lP)(c:PV->oB)=>if aU (cF (a-1)) b.length then b[fj (cF (a-1))]?.bind c else Z):=⟨⟩
def xY(axl:anv->oP):cA (avb):=λ(a,b,c,d,e,f,g,h,i,j,k,l,m,n,o,p,q,r,s,t)=>λu=>gN (iw (c>0)) (ajY c g λa=>od tg [cJ [h,i,j,k,l,m,n,o,p,q,r,s,t.1],Bj a]) (ig (zz (cF (c-1)) g g λv=>Ef g c λ_=>u (a,b,cF (c-1),d,e,f,uH g c (Bj v),h,i,j,k,l,m,n,o,p,q,r,s,t)) (Ef g c λ_=>axl (a,aq b,d,e,f,kA g c [h,i,j,k,l,m,n,o,p,q,r,s,t.1],())))
def xX(L:aY):cA (anv):=λ(a,b,c,d,e,f,g)=>λh=>ep b e (mO th [Ia c d e,b,a] (Ej (h (a,aq b,c,d,e,f,g)) (fJ e b λg=>kz f [Bj g] 128 (L.run (xY h) (a,b,cG f,c,d,e,f++[Bj g],g 0,g 1,g 2,g 3,g 4,g 5,g 6,g 7,g 8,g 9,g 10,g 11,g 12,()))))) (cY (iW 13 f))
def EV(L:aY)(p0 p1:PV):oP:=agn p0 λa b c=>j5 p1 λd=>L.run (xX L) (d,0,a,b,c,[],())
def tl:=j4 EV
def AK:cA (lP×xD Unit):=λ(a,b,c,d,e,_)=>λf=>ep e a (gG a e λg h=>au3 h g b e a c d (f (a,b,c,d,aq e,()))) (cY bK)
def Hd(L:aY)(p0 p1 p2 p3:PV):oP:=ij 5 p0 p1 λa b=>iV p2 p3 λc d=>WO (↑a.length:Int) 2 32 (eU 5) (L.run AK (a,b,c,d,0,()))
def ko:=mw4 Hd
abbrev ZI:bD (λ(a:UInt8)(b:Int)=>iw ((↑a.toNat:Int)>=b)):=⟨⟩
abbrev ari:bD (λ(a b c d:Int)(e:Bytes->Int->(Bytes×Int×Unit->oP)->UInt8->Bool->oP)=>(λ(f,g,_)=>λh=>cP (g<(↑(List.length f):Int)) ((agK f g).bind λi=>gN (ZI i a) (OB i b) λa=>gX a (gN (ZI i c) (OB i d) λa=>U a) (e f g h i)) (cY iX):Bytes×Int×Unit->(Bytes×Int×Unit->oP)->oP)):=⟨⟩
abbrev amj:bD (λ(a b c d:Bool)(e:Bool->oP)=>gN a (cw b) λa=>gN a (cw c) λa=>gN a (cw d) e):=⟨⟩
def vB:cA (Bytes×Int×Unit):=ari 97 122 65 90 λa b c d e=>gX e (zy (ZI d 48) (OB d 57)) λe=>amj (!e) (F5 d !=45) (F5 d !=95) (F5 d !=46) λd=>pq d (c (a,aq b,()))
abbrev ajZ:bD (λ(a:PV)(b:aY)(c:cA (Bytes×Int×Unit))=>gd a λa=>WO (↑(List.length a):Int) 1 32 eV (b.run c (a,0,()))):=⟨⟩
def CP(L:aY)(p0:PV):oP:=ajZ p0 L vB
def gV:=nK CP
def Q1(L:aY)(p0 p1 p2:PV):oP:=aee p0 p1 p2
def cv:=Gl Q1
def tK(ZJ:Int×lP×Int×Int×Int×Unit->oP):cA (awY):=λ(a,b,c,d,e,f,g,h,i,j,k)=>λl=>gf b a c (j5 h λb=>F7 cv (LV b) (j5 i λa=>lF cv (H7 a 8)) (j5 j λa=>lF cv (H7 a 16)) λb=>gX b (j5 k.1 λa=>lF cv (vh a 86400)) λb=>gX b (j5 k.2.1 λa=>lF cv (H7 a 255)) (gJ a 2 (ZJ (aq a,c,d,e,f,())))) λm=>gd (m 0) λm=>gd g λn=>lL (m==n) a 6 (l (a,aq b,c,d,e,f,g,h,i,j,k))
def AJ(L:aY):cA (Int×lP×fI Unit):=λ(a,b,c,d,e)=>λf=>ep a b (fJ b a λg=>amh g gV a (L.run (tK f) (a,0,b,c,d,e.1,g 0,g 1,g 2,g 3,g 4,g 5,()))) uD
def Hb(L:aY)(p0:PV):oP:=ajS p0 λa b c d=>F7 cv (LV b) (lF cv (vh c 86400)) (lF cv (LV d)) (gJ (eU (-1)) 2 (xF a 16 (L.run (AJ L) (0,a,b,c,d,()))))
def we:=nK Hb
def tP(ZJ:auI->oP):cA (awZ):=λ(a,b,c,d,e,f,g)=>λh=>gf f a g.2.2.2.1 (uV (e==c) iX (ZJ (a,e,c,aq d,g))) λi=>FH i 4 λi=>gN i (j6 g.2.2.2.1 f 0 λa=>cw (a==b)) (ig (fJ g.2.2.2.1 f (Ei λe=>h (a,b,c,d,e,aq f,g))) (h (a,b,c,d,e,aq f,g)))
def tQ(L:aY):cA (auI):=λ(a,b,c,d,e)=>λf=>cP (d<=a) (L.run (tP f) (a,b,c,d,-1,0,e)) (cY eV)
def Hi(L:aY)(p0 p1 p2 p3:PV):oP:=Bl p0 λa b c d e f g h i=>j5 p1 λj=>iV p2 p3 λk l=>L.run (tQ L) (j,k,l,0,a,b,c,d,e,f,g,h,i,())
def wh:=mw4 Hi
def wj:cA (auJ):=λ(a,b,c,d,e,f,g,h,i,j,k,l,m,n)=>λo=>qi b a f (cY bK) λp q=>j5 l λr=>gN (q==r) (cM p 1 λa=>Ju m a) λq=>gN q (cM p 2 λa=>Ju n.1 a) λq=>gN q (cM p 3 λa=>Ju n.2.1 a) λp=>fh p 6 (o (a,aq b,c,d,e,f,g,h,i,j,k,l,m,n))
def wk(L:aY):cA (auJ):=λ(a,b,c,d,e,f,g,h,i,j,k,l,m)=>λn=>gf b a f (mcb m.2.2.2.1 λb=>gN b (j5 m.2.1 λb=>j5 l λl=>od wh [Bm c d e f g h i j k,a,b,l]) λb=>fh b 19 (L.run wj (a,0,c,d,e,f,g,h,i,j,k,l,m))) λo=>mcb m.2.2.2.1 λp=>gN p (FH o 4 λa=>cw a) λp=>gN p (cM o 0 λa=>j5 l λb=>Jt (a==b) (cM o 2 λa=>Ju m.2.1 a)) λo=>fh o 19 (n (a,aq b,c,d,e,f,g,h,i,j,k,l,m))
def J6(L:aY)(p0 p1:PV):oP:=Bl p0 λa b c d e f g h i=>j5 p1 λj=>gG d j λk l=>mO cv [l,bK,FI c] λl=>gX (!l) (cM k 2 λa=>lF cv [a,bK,FI c]) (uB (cM k 0 (RU k 2)) (eU 9) (aef k c 7 2 1 λl m n=>mO cv [n,bK,FI l] λn=>I3 (!n) (cM k 3 λa=>lF cv [a,bK,FI m]) (eU 9) (cQ k λn=>fJ l n λn=>iY n 0 k 3 λn o=>gG m o λ_ m=>fh (n !=m) 13 (FH k 4 λm=>gN m (cM k 1 λa=>Jt (a !=FI l) (cM k 3 λa=>cw (a !=0))) λl=>fh l 19 (L.run (wk L) (j,0,a,b,c,d,e,f,g,h,i,k 0,k 1,k 2,k 3,k 4,()))))))
def zk:=j4 J6
abbrev avf:bD (λ(a:acf->oP)=>(λ(b,c,d,e,f,g,h,_)=>λi=>cP (f<c) (mE h 1099511627776 (i (b,c,d,e,aq f,g,h++gH 1099511627776,()))) (uG ((g++[PV.lJ 1 h]).length*24<=au) (a (b,c,d,aq e,g++[PV.lJ 1 h],()))):ame->(ame->oP)->oP)):=⟨⟩
def tY(L:aY)(arj:acf->oP):cA (ame):=avf arj
abbrev aei:bD (λ(a:PV)(b:lP)(c:Int)(d:PV)(e:Int)=>setRow 1 a 0 (PV.lJ 1 (uH b c (setCells 1 d 0 1 (eU e))))):=⟨⟩
abbrev ark:bD (λ(a:lP)(b c d e:Int)(f:Int->Int->oP)=>(λ_=>W7 a b 1 0 c λ_ _ b=>uZ b λb=>SQ a d 1 0 (W7 a d 1 0 e λ_ _ a=>uZ a (f b)):lP->oP)):=⟨⟩
def np(DY:Int×Int×Int×lP×Unit->oP):cA (xD (lP×Unit)):=λ(a,b,c,d,e,_)=>λf=>cP (d<a) (SQ e c 1 0 (zz c e e λg=>(fZ 1 (g 0)).bind λ_=>W7 e c 1 0 d λ_ _ g=>uZ g λg=>Ef e c λh=>(fZ 1 (h 0)).bind (ark e c b b d λh i=>W7 e c 1 0 d λj k l=>f (a,b,c,aq d,uH e c (aei j k d l (if cF (h+i)<g then cF (h+i)else g)),())))) (DY (a,b,aq c,e,()))
def nq(L:aY)(QY:Int×Int×lP×Unit->oP):cA (fI (lP×Unit)):=λ(a,b,c,d,_)=>λe=>cP (c<a) (L.run (np e) (a,b,c,0,d,())) (QY (a,aq b,d,()))
def nr(L:aY):cA (Int×Int×lP×Unit):=λ(a,b,c,_)=>λd=>cP (b<a) (L.run (nq L d) (a,b,0,c,())) (yV (List.map PV.strip c))
def tZ(L:aY):cA (acf):=λ(a,b,c,d,e,_)=>λf=>ep d a (fJ a d λg=>FH g 3 λh=>gX h (cw (!c)) (ig (uZ g λh=>SQ e h 1 0 (iY g 1 g 0 λi j=>SQ e j 1 0 (cQ g λk=>W7 e j 1 0 k λ_ _ j=>iY j 0 g 2 λg j=>W7 e h 1 0 i λk l m=>f (a,b,c,aq d,uH e h (aei k l i m (if j<g then j else g)),())))) (f (a,b,c,aq d,e,())))) (L.run (nr L) (b,0,e,()))
def tX(L:aY):cA (acf):=λ(a,b,c,d,e,_)=>λf=>cP (d<b) (L.run (tY L f) (a,b,c,d,0,e,[],())) (L.run (tZ L) (a,b,c,0,e,()))
def AW(L:aY)(p0 p1 p2:PV):oP:=ij 4 p0 p1 λa b=>mcb p2 λc=>L.run (tX L) (a,b,c,0,[],())
def lB:=Gl AW
abbrev avg:bD (λ(a:abn->oP)=>(λ(b,c,d,e,f,g,_)=>λh=>cP (f<b) (gX (e==f) (fJ c e λa=>Cl 1 a 0 λa=>fJ a f λa=>cM a 0 λa=>bM (a>14400)) λa=>bE a (h (b,c,d,e,aq f,g,())) (fJ c e (RV f λa=>fJ d e (RV f λi=>fJ c e (RV f λj=>OD g [e,f,a,PV.bool (i==j)] (fJ d e (RV f λk=>fJ c e (RV f λl=>gN (iw (k>l)) (fJ d e λa=>Cl 1 a 0 λa=>fJ a f λa=>cM a 0 λa=>bM (a<=14400)) λk=>bE k (fJ d e (RV f λk=>OD (g++[PV.agg [e,f,a,PV.bool (i==j)]]) [e,f,k,PV.bool Y] (h (b,c,d,e,aq f,g++eS [e,f,a,sA (i==j)]++eS [e,f,k,iX],())))) (h (b,c,d,e,aq f,g++eS [e,f,a,sA (i==j)],())))))))))) (a (b,c,d,aq e,g,())):amf->(amf->oP)->oP)):=⟨⟩
def qH(L:aY)(Lk:abn->oP):cA (amf):=avg Lk
def qI(L:aY):cA (abn):=λ(a,b,c,d,e,_)=>λf=>cP (d<a) (L.run (qH L f) (a,b,c,d,0,e,())) (cY (cB e))
def Fe(L:aY)(p0 p1:PV):oP:=ij 4 p0 p1 λa b=>iZ lB [cB a,b,eV] 1 λc=>iZ lB [cB a,b,iX] 1 λa=>L.run (qI L) (b,c,a,0,[],())
def lu:=j4 Fe
def tN(avh:aiE->oP):cA (aw0):=λ(a,b,c,d,e,f,g,h,i,j,k,l,m)=>λn=>qi b a g (avh (aq a,c,d,e,f,g,h,i,j,k,())) λo p=>j5 l λq=>gN (p==q) (cM o 1 λa=>Ju m.1 a) λp=>gN p (FH o 3 λa=>mcb m.2.2.1 λb=>cw (a==b)) (gJ a 6 (n (a,aq b,c,d,e,f,g,h,i,j,k,l,m)))
def AN:cA (aw1):=λ(a,b,c)=>λd=>ajX b a c.2.2.2.2.1 (Kd.int .i64) Kd.bool [] uD (λa=>[a 0,a 1,a 2,a 3]) (λa=>[a 0,a 1,a 2,a 3]) λe f=>lL (!(cz (RS e) (RS f))) bK 18 (d (a,aq b,c))
def iR(L:aY):cA (aiE):=λ(a,b,c,d,e,f,g,h,i)=>λj=>ep a f (gG f a λk l=>F7 cv [l,bK,FI b] (cM k 1 λa=>lF cv [a,bK,FI b]) (cM k 0 (RU k 1)) (gJ a 9 (cM k 2 λl=>mO cv (H7 l 14400) λl=>lL (!l) a 2 (L.run (tN j) (a,0,b,c,d,e,f,g,h,i.1,i.2.1,k 0,k 1,k 2,k 3,()))))) (iZ lu (yU (cB f) b) 4 λa=>lL (SP a f) bK 18 (L.run AN (a,0,b,c,d,e,f,g,h,i)))
def He(L:aY)(p0:PV):oP:=Bl p0 λa b c d e f g h i=>L.run (iR L) (0,a,b,c,d,e,f,g,h,i,())
def wg:=nK He
abbrev aj0:bD (λ(a b:Int)(c:lP)(d:PV->oP)=>(λe=>gf a b c (fJ c b d) λd=>gd (d 0) λd=>fJ c b λf=>gd (f 0) λf=>lL (d==f) b 6 (e (c,b,aq a,())):(lP×Int×Int×Unit->oP)->oP)):=⟨⟩
def qD(iO:lP×Int×Unit->oP):cA (lP×Int×Int×Unit):=λ(a,b,c,_)=>aj0 c b a λc=>cQ c λc=>mO cv (vh c 7) λc=>lL (!c) b 2 (iO (a,aq b,()))
abbrev agr:bD (λ(a:lP->oP)(b:lP->Int->(lP×Int×Unit->oP)->oP)=>(λ(c,d,_)=>λe=>ep d c (fJ c d λf=>gd (f 0) λf=>Ek a (sq f) d 12 (b c d e)) uD:lP×Int×Unit->(lP×Int×Unit->oP)->oP)):=⟨⟩
def yg(L:aY):cA (lP×Int×Unit):=agr gV λa b c=>L.run (qD c) (a,b,0,())
abbrev ZK:bD (λ(a:Nat)(b:PV)(c:aY)(d:cA (lP×Int×Unit))=>iI a b λa=>xF a 64 (c.run d (a,0,()))):=⟨⟩
def E8(L:aY)(p0:PV):oP:=ZK 3 p0 L (yg L)
def tI:=nK E8
def zj:cA (aw2):=λ(a,b,c,d,e,f,g,h,i,j,k,l,m,n)=>λo=>gf b a e (cY bK) λp=>gd (p 3) λq=>gd n.2.1 λr=>gN (q==r) (cM p 1 λa=>Ju m a) λq=>gN q (cM p 2 λa=>Ju n.1 a) λp=>fh p 6 (o (a,aq b,c,d,e,f,g,h,i,j,k,l,m,n))
def MT(L:aY)(p0 p1:PV):oP:=Bl p0 λa b c d e f g h i=>j5 p1 λj=>fJ c j λk=>gd (k 3) λl=>mO gV [sq l] λl=>fh (!l) 12 (uZ k λl=>I3 (iw (l< -1)) (cM k 2 λa=>bM (a<0)) (eU 2) (cQ k λl=>mO cv (vh l 36524) λl=>fh (!l) 11 (cM k 4 λl=>I3 (iw (l<0)) (cM k 4 λa=>H9 a b) (eU 9) (Cl 5 k 7 λl=>Dj ko (acg (cy l) a) λl=>uV (l !=0) l (L.run zj (j,0,a,b,c,d,e,f,g,h,i,k 0,k 1,k 2,k 3,k 4,k 5,k 6,k 7,()))))))
def B0:=j4 MT
def tH(iO:lP×Int×Unit->oP):cA (lP×Int×Int×Unit):=λ(a,b,c,_)=>aj0 c b a λc=>cQ c λc=>mO cv (vh c 15) λc=>gX (!c) (j6 a b 3 λa=>lF cv (vh a 3600)) (gJ b 2 (iO (a,aq b,())))
def AF(L:aY):cA (lP×Int×Unit):=agr gV λa b c=>L.run (tH c) (a,b,0,())
def G8(L:aY)(p0:PV):oP:=ZK 4 p0 L (AF L)
def wb:=nK G8
abbrev ZL:bD (λ(a:Int)(b:PV)(c:Int)(d:lP->oP)(e:lP)(f:PV)(g:oP)=>Dk a [b,c,a] (Di d e λa b=>Dk b [f,a,b] g)):=⟨⟩
def tR:cA (aiE):=λ(a,b,c,d,e,f,g,h,i,j,k)=>λl=>ep a e (Dj zk [Bm b c d e f g h i j,a] λm=>Dk m [eU 3,a,m] (l (aq a,b,c,d,e,f,g,h,i,j,k))) (Di wg [Bm b c d e f g h i j] λa b=>ZL b (eU 4) a we (eS [iW 6 g,h,i,j]) (eU 5) (L8 [bK,bK,bK]))
def AO(L:aY):cA (aiE):=λ(a,b,c,d,e,f,g)=>λh=>ep a d (Dj B0 [Bm b c d e f g.1 g.2.1 g.2.2.1 g.2.2.2.1,a] λi=>Dk i [eU 2,a,i] (h (aq a,b,c,d,e,f,g))) (uV (SO e 1024) (PV.b8 (vh (eU 3) 5)) (L.run tR (0,b,c,d,e,f,g)))
def Hk(L:aY)(p0:PV):oP:=Bl p0 λa b c d e f g h i=>Di wb [cB a] λj k=>ZL k bK j tI [eT b] (eU 1) (uV (SO c 1024) (PV.b8 (vh (eU 2) 5)) (L.run (AO L) (0,a,b,c,d,e,f,g,h,i,())))
def wm:=nK Hk
def Hs(L:aY)(p0:PV):oP:=Bl p0 λa b c d e f g h i=>acb wm [Bm a b c d e f g h i] λ_ _ a=>u7 (a==0)
def wx:=nK Hs
def Ht(L:aY)(p0:PV):oP:=auF p0 λ_ a b _ _=>uV (iw (cF (b-a)<30)) (cF (b-a)) (cY (eU 30))
def qe:=nK Ht
def vK:cA (lP×Int×Unit):=λ(a,b,_)=>λc=>ep b a (fJ a b λd=>cQ d λd=>fi (d<0) (j6 a b 1 λc=>j6 a b 2 λa=>bM (c>a)) λd=>gX d (j6 a b 2 λa=>bM (a>3155932800)) (uB (zy (iw (b>0)) (j6 a b 1 λc=>j6 a (cF (b-1)) 2 λa=>bM (c<a))) eV (c (a,aq b,())))) (u7 Y)
def C2(L:aY)(p0:PV):oP:=iI 5 p0 λa=>L.run vK (a,0,())
def qL:=nK C2
def Hu(L:aY)(p0 p1 p2:PV):oP:=iI 5 p0 λa=>iV p1 p2 λb c=>cP (b>0) (fJ a (cF (b-1)) (Ei λd=>fJ a b λe=>cQ e λe=>uV (iw (cF (e+c)<d)) d (fJ a b λa=>cQ a λa=>cY (cF (a+c))))) (fJ a b λd=>cQ d λd=>uV (iw (cF (d+c)<0)) bK (fJ a b λa=>cQ a λa=>cY (cF (a+c))))
def wv:=Gl Hu
abbrev uI:bD (cy []):=⟨⟩
def fX(L:aY):cA (lP×Int×Int×lP×Unit):=λ(a,b,c,d,_)=>λe=>ep c a (fJ a c λf=>fJ a c λg=>Dj qe [LP g] λg=>cM f 2 λh=>cP (cF (b+g)>h) (fJ a c λg=>Dj qe [LP g] λg=>lL (iw (cF (b+g)>3155932800)) uI 10 (OD d [f 0,b,cF (b+g),f 3,f 4] (ep (cF (c+1)) a (fJ a (aq c) λh=>cQ h λh=>fJ a c (Ei λi=>e (a,cF (cF (h+cF (b+g))-i),aq c,d++eS [f 0,b,cF (b+g),f 3,f 4],()))) (e (a,b,aq c,d++eS [f 0,b,cF (b+g),f 3,f 4],()))))) (cM f 2 λg=>lL (iw (g>3155932800)) uI 10 (OD d [f 0,b,f 2,f 3,f 4] (ep (cF (c+1)) a (fJ a (aq c) λg=>iY g 1 f 2 λg h=>fJ a c (Ei λi=>e (a,cF (cF (g+h)-i),aq c,d++eS [f 0,b,f 2,f 3,f 4],()))) (e (a,b,aq c,d++eS [f 0,b,f 2,f 3,f 4],())))))) (xE (cy d))
abbrev UC:bD (λ(a:Int)(b:lP)(c:Nat)(d:oP)=>ZG (0:Int) 0 a b (c=c/\c≠0) d):=⟨⟩
abbrev acj:bD (λ(a:Int)(b:lP)=>(List.drop (Int.toNat 0) (List.take (fj a) b):lP)):=⟨⟩
def yq(L:aY)(p0 p1 p2:PV):oP:=iI 5 p0 λa=>iV p1 p2 λb c=>fi (b<0) (H9 b a) (gJ uI 1 (Eg c (-43200) 43200 (gJ uI 2 (Ek qL (cy a) uI 10 (UC b a 5 (kz [] (List.drop (Int.toNat 0) (List.take b.toNat a)) 32 (Dj wv [cy a,b,c] λc=>L.run (fX L) (a,c,b,[]++acj b a,()))))))))
def nu:=Gl yq
abbrev avi:bD (λ(a b c d:Int)=>(ari a b c d λa b c d e=>gX e (zy (ZI d 48) (OB d 57)) λe=>gX e (cw (F5 d==45)) λe=>gX e (cw (F5 d==95)) λe=>gX e (cw (F5 d==46)) λd=>pq (!d) (c (a,aq b,())):Bytes×Int×Unit->(Bytes×Int×Unit->oP)->oP)):=⟨⟩
def pX:cA (Bytes×Int×Unit):=avi 97 122 65 90
def Fg(L:aY)(p0:PV):oP:=ajZ p0 L pX
def jY:=nK Fg
def A9:cA (lP×xD Unit):=λ(a,b,c,d,e,_)=>λf=>ep e a (gG a e λg h=>fi (h<0) (cM g 0 λa=>bM (a>=b)) (gJ e 9 (gN (iw (e>0)) (j6 a (cF (e-1)) 0 λa=>cM g 0 λb=>cw (a==b)) (gJ e 13 (cQ g λh=>fi (h<c) (cM g 1 λa=>cM g 2 λb=>bM (a>b)) λh=>gX h (cM g 2 λa=>bM (a>d)) λh=>gX h (zy (iw (e>0)) (cM g 1 λb=>j6 a (cF (e-1)) 2 λa=>bM (b<a))) (gJ e 10 (f (a,b,c,d,aq e,())))))))) uD
def Hv(L:aY)(p0 p1 p2 p3:PV):oP:=ij 5 p0 p1 λa b=>iV p2 p3 λc d=>Eg (↑a.length:Int) 2 32 (gJ bK 5 (L.run A9 (a,b,c,d,0,())))
def wq:=mw4 Hv
def Hw(L:aY)(p0:PV):oP:=Bk p0 λa b c d e f g h i j k l m=>WO a 0 7 (eU 36) (fh (iw (b<1)) 2 (Eg c 0 3155932800 λa=>gX a (bM (d<0)) λa=>gX a (bM (d>3155932800)) (uB (bM (c>=d)) (eU 10) (WO e 1 6 (eU 35) (mO jY [sq f] λa=>fh (!a) 12 (WO g 0 36524 (eU 11) (fh (iw (h<0)) 2 (gX (e==1) (cw (e==3)) λa=>gX (e==4) (cw (e==5)) λb=>gN a (Jt (iw (i<0)) (bM (i>31))) λc=>gX c (zy (e==1) (Jt (iw (j< -43200)) (bM (j>43200)))) (au4 (e==5) (Jt (iw (k<0)) (bM (k>63))) b wq m a i (e==1) j (Jt (k !=0) (cw l)) (uB (zy (!b) (bM ((↑m.length:Int)>0))) (eU 1) (cY bK)))))))))))
def pY:=nK Hw
abbrev LW:bD (λ(a:Int)(b:lP)(c:PV)(d:PV->oP)=>ep a b (fJ b a d) (cY c)):=⟨⟩
def yF:cA (avc):=λ(a,b,c,d,e,f,g,h,i,j,k,l,m,n,o,p,q)=>λr=>LW a d (eU (-1)) λs=>gd (s 3) λs=>gN (s==p) (j6 d a 1 λa=>cw (a==q.1)) λs=>gN s (j6 d a 2 λa=>cw (a==q.2.1)) λs=>uV s a (r (aq a,b,c,d,e,f,g,h,i,j,k,l,m,n,o,p,q))
def Fh(L:aY)(p0 p1:PV):oP:=Bl p0 λa b c d e f g h i=>Bk p1 λj k l m n o p q r s t u v=>L.run yF (0,a,b,c,d,e,f,g,h,i,j,k,l,m,n,o,p,q,r,s,t,u,v,())
def oa:=j4 Fh
abbrev OG:bD (λ(a:lP)=>(([]:List PV)++a:lP)):=⟨⟩
abbrev RY:bD (λ(a:lP)(b:oP)=>kz ([]:List PV) a 32 b):=⟨⟩
def Dc(L:aY):cA (lP×Int×lP×Unit):=λ(a,b,c,_)=>λd=>LW b a (fR c) λe=>fJ a b (H8 7 λf=>RY f (kz c [PV.agg [e 0,e 1,e 2,e 3,e 4,e 5,e 6,PV.rs 5 (([]:List PV)++f)]] 80 (d (a,aq b,c++eS [e 0,e 1,e 2,e 3,e 4,e 5,e 6,cy (OG f)],()))))
def JT(L:aY)(p0:PV):oP:=iI 8 p0 λa=>L.run (Dc L) (a,0,[],())
def mc:=nK JT
abbrev RZ:bD (λ(a:lP->oP)(b:lP)(c:Nat)(d:lP)(e:Nat)(f:lP->lP)(g:lP->oP)=>iZ a b c λa=>kz d (f a) e (g a)):=⟨⟩
abbrev Ns:bD ([iW 0 [],iW 0 [],iW 0 [],iW 0 [],iW 0 [],iW 0 [],eU 0,eU 0,eU 0]):=⟨⟩
def Hx(L:aY)(p0 p1:PV):oP:=Bl p0 λa b c d e f g h i=>Bk p1 λj k l m n o p q r s t u v=>Dj oa [Bm a b c d e f g h i,H6 j k l m n o p q r s t u v] λj=>lL (iw (j>=0)) (cJ Ns) 6 (fi (t<0) (H9 t b) (gJ (cJ Ns) 14 (Dj ko (acg (cy v) a) (F6 (cJ Ns) (lL (iw ((↑c.length:Int)>=1024)) (cJ Ns) 5 (iZ mc [fR c] 8 λc=>RZ mc [fR (eS [eU (-1),p,q,sq o,t,sA u,eV,cy v])] 8 c 80 (λa=>a) λj=>xE (cJ [cB a,eT b,fR (c++j),cy d,cB e,iW 6 f,g,h,i])))))))
def wy:=j4 Hx
def uh(L:aY):cA (lP×Int×Int×lP×Unit):=λ(a,b,c,d,_)=>λe=>ep c a (gG a c λ_ f=>gN (f !=b) (j6 a c 2 λa=>cw (a !=b)) (ig (fJ a c λf=>kz d [LP f] 40 (e (a,b,aq c,d++[LP f],()))) (e (a,b,aq c,d,())))) (cY (cy d))
def AZ(L:aY)(p0 p1:PV):oP:=ij 5 p0 p1 λa b=>L.run (uh L) (a,b,0,[],())
def lD:=j4 AZ
abbrev aj1:bD (λ(a:Nat)(b:lP)(c:Nat)(d:lP)(e:Nat)(f:lP)(g:Nat)(h i:lP)(j:Nat)(k:lP)(l m n o:PV)=>PV.b8 [cJ [PV.rs a b,PV.rs c d,PV.rs e f,PV.rs g h,PV.rs a i,PV.rs j k,l,m,n],o]):=⟨⟩
abbrev anw:bD (λ(a b:lP)(c:Int)(d:lP)(e:PV)(f g h i j k:lP)(l m n:Int)=>Dj ko (acg (PV.rs 5 a) b) λb=>bE (b !=0) (cY (aj1 0 [] 0 [] 0 [] 0 [] [] 0 [] bK bK bK b)) (RY a (zz c (d.set c.toNat e) f λb=>iZ lD [PV.rs 5 g,c] 5 λd=>cY (aj1 4 h 3 i 8 (List.map PV.strip (agq f c (OG a) b)) 5 d j 6 k l m n bK)))):=⟨⟩
abbrev zq2:bD (λ(a b:lP)(c:Int)(d:lP)(e:PV)(f g h i j:lP)(k l m:Int)=>anw a b c d e (uH d c e) f g h i j k l m):=⟨⟩
abbrev zq1:bD (λ(a:lP)(b:Int)(c d:PV)(e:lP)(f g:Int)(h i j k l m n:lP)(o p q:Int)(r:lP)=>arh (kA a b (c 0::c 1::c 2::c 3::c 4::c 5::d::e)) b f (a.set b.toNat (PV.agg (c 0::c 1::c 2::c 3::c 4::c 5::d::e))) λs t u=>W7 (OT (kA a b (c 0::c 1::c 2::c 3::c 4::c 5::d::e)) b s t f u 3) b 5 7 f λv w x=>bE (g==4) (anw h i b ((a.set b.toNat (PV.agg (c 0::c 1::c 2::c 3::c 4::c 5::d::e))).set b.toNat (setRow 8 s 7 (PV.lJ 5 (t.set f.toNat (setCells 5 u 3 1 (PV.bool J)))))) (setRow 8 v 7 (PV.lJ 5 (w.set f.toNat (setCells 5 x 4 1 (PV.bool J))))) (OT (OT (kA a b (c 0::c 1::c 2::c 3::c 4::c 5::d::e)) b s t f u 3) b v w f x 4) j k l m n o p q) (cY (aj1 4 k 3 l 8 (List.map PV.strip (OT (OT (kA a b (c 0::c 1::c 2::c 3::c 4::c 5::d::e)) b s t f u 3) b v w f x 4)) 5 r m 6 n o p q bK))):=⟨⟩
abbrev axm:bD (λ(a:Int)(b:lP)(c d:PV)(e f:lP)(g:PV)(h:lP)(i j:Int)(k l m n o p q:lP)(r s t:Int)(u:lP)=>zz a (b.set a.toNat (PV.agg (c 0::c 1::c 2::c 3::c 4::c 5::d::e))) (kA f a (c 0::c 1::c 2::c 3::c 4::c 5::g::h)) λb=>(fZ 5 (b 7)).bind λ_=>zq1 f a c g h i j k l m n o p q r s t u):=⟨⟩
abbrev aj2:bD (λ(a b:Int)(c:lP)(d e:PV)(f g:lP)(h:PV)(i:lP)(j:Int)(k l m n o p q:lP)(r s t:Int)(u:lP)(v:PV)=>bE (a==3) (axm b c d e f g h i j a k l m n o p q r s t u) (bE (a==4) (zq2 k l b c (PV.agg (d 0::d 1::d 2::d 3::d 4::d 5::e::f)) m n o p q r s t) (xE (cJ (aci n o (kA g b (d 0::d 1::d 2::d 3::d 4::d 5::v::i)) u p q r s t))))):=⟨⟩
abbrev UD:bD (λ(a:lP->oP)=>(λb c=>Dk c [cJ Ns,c] (a b):lP->Int->oP)):=⟨⟩
def uk(L:aY):cA (avd):=λ(a,b,c,d,e,f,g,h,i,j,k,l,m,n,o,p,q,r,s,t,u,v,w,x,y,z,A,B,C10,D,E,F,G,H,I10,K,L,M,N)=>λP=>ep b a (fJ a b λQ=>fJ a b (H8 7 λR=>RY R (uG ((d++[PV.agg [Q 0,Q 1,Q 2,Q 3,Q 4,Q 5,Q 6,PV.lJ 5 (([]:List PV)++R)]]).length*80<=au) (P (a,aq b,c,d++eS [Q 0,Q 1,Q 2,Q 3,Q 4,Q 5,Q 6,PV.lJ 5 (OG R)],e,f,g,h,i,j,k,l,m,n,o,p,q,r,s,t,u,v,w,x,y,z,A,B,C10,D,E,F,G,H,I10,K,L,M,N))))) (gX (r==1) (cw (r==3)) λa=>gN a (fJ g c λa=>Cl 5 a 7 λa=>H9 v a) (gJ (cJ Ns) 9 (bE (r==1) (fJ g c (H8 7 λa=>SL nu [cy a,v,w] (UD λa=>Ef d c λb=>bE (r==2) (zz c (d.set c.toNat (PV.agg (b 0::b 1::b 2::b 3::b 4::b 5::b 6::PV.rs 5 a::over [] []))) (kA d c (b 0::b 1::b 2::b 3::b 4::b 5::b 6::cy a::over [] [])) λf=>aj2 r c (d.set c.toNat (PV.agg (b 0::b 1::b 2::b 3::b 4::b 5::b 6::PV.rs 5 a::over [] []))) f (PV.bool Y) (over [] [f 7]) (kA d c (b 0::b 1::b 2::b 3::b 4::b 5::b 6::cy a::over [] [])) iX (over [] [f 7]) v z e h D E H I10 K L M G (sA Y)) (aj2 r c d b (b 6) (PV.rs 5 a::over [] []) d (b 6) (cy a::over [] []) v z e h D E H I10 K L M G (b 6))))) (bE (r==2) (Ef d c λa=>aj2 r c d a (PV.bool Y) (over [] [a 7]) d iX (over [] [a 7]) v z e h D E H I10 K L M G (sA Y)) (bE (r==3) (SQ d c 5 7 (arh d c v d λa b f=>W7 (OT d c a b v f 3) c 5 7 v λg i j=>bE (r==4) (zq2 z e c (d.set c.toNat (setRow 8 a 7 (PV.lJ 5 (b.set v.toNat (setCells 5 f 3 1 (PV.bool J)))))) (setRow 8 g 7 (PV.lJ 5 (i.set v.toNat (setCells 5 j 4 1 (PV.bool J))))) h D E H I10 K L M) (xE (cJ (aci D E (OT (OT d c a b v f 3) c g i v j 4) G H I10 K L M))))) (bE (r==4) (Dj ko (acg (cy z) e) (F6 (cJ Ns) (RY z (Ef d c λa=>iZ lD [cy h,c] 5 λb=>xE (cJ (aci D E (agq d c (OG z) a) b H I10 K L M)))))) (xE (cJ (aci D E d G H I10 K L M)))))))))
abbrev ku:bD (λ(a:lP)(b:Nat)=>cell (a.getD 0 .bad) b):=⟨⟩
abbrev anx:bD (λ(a:lP)=>([ku a 0,ku a 1,ku a 2,ku a 3,ku a 4,ku a 5,ku a 6,ku a 7,ku a 8]:lP)):=⟨⟩
abbrev Kw:bD (λ(a:lP->oP)(b:lP)(c:Nat)(d:lP->Int->oP)=>mcJ a b λa=>(bY 2 a).bind λa=>(Ab.asAgg c (zq7 a)).bind λ_=>mcG a 1 (d a)):=⟨⟩
def Hy(L:aY)(p0 p1:PV):oP:=Bl p0 λa b c d e f g h i=>Bk p1 λj k l m n o p q r s t u v=>Ek wx (Bm a b c d e f g h i) (cJ Ns) 21 (Dj pY [H6 j k l m n o p q r s t u v] (F6 (cJ Ns) (bE (n==5) (Kw wy [Bm a b c d e f g h i,H6 j k l m n o p q r s t u v] 9 λa b=>L8 [cJ (anx a),b]) (Dj oa [Bm a b c d e f g h i,H6 j k l m n o p q r s t u v] λw=>lL (iw (w<0)) (cJ Ns) 16 (L.run (uk L) (c,0,w,[],a,b,c,d,e,f,g,h,i,j,k,l,m,n,o,p,q,r,s,t,u,v,0,0,0,a,b,c,d,e,f,g,h,i,()))))))
def wz:=j4 Hy
def zo(L:aY):cA (ave):=λ(a,b,c,d,e,f,g,h,i,j,k,l,m,n,o,_)=>λp=>ep b a (fJ a b λq=>Kw wz [cJ [c,d,e,f,g,h,i,j,k],Bj q] 9 λq r=>bE (r==0) (mE o r (p (a,aq b,ku q 0,ku q 1,ku q 2,ku q 3,ku q 4,ku q 5,ku q 6,ku q 7,ku q 8,l,m,n,o++gH r,()))) (mE o r (p (a,aq b,c,d,e,f,g,h,i,j,k,l,m,n,o++gH r,())))) (L8 [cJ [c,d,e,f,g,h,i,j,k],iW 1 o])
def M0(L:aY)(p0 p1:PV):oP:=Bl p0 λa b c d e f g h i=>iI 13 p1 λj=>L.run (zo L) (j,0,cB a,eT b,fR c,cy d,cB e,iW 6 f,g,h,i,0,0,0,[],())
def B7:=j4 M0
abbrev arl:bD (λ(a:lP->oP)(b c d e f g:lP)(h i j:Int)(k:lP)=>mcJ a [Bm b c d e f g h i j,iW 13 k] λa=>(bY 2 a).bind λa=>(Ab.asAgg 9 (zq7 a)).bind λ_=>iI 1 (a.getD 1 .bad) λ_=>cY (cJ (anx a))):=⟨⟩
def CJ(L:aY)(p0:PV):oP:=ace p0 λa b c d e f g h i j k l m=>iZ tl [Ia j k l,m] 13 λj=>arl B7 a b c d e f g h i j
def qA:=nK CJ
def Ap(L:aY)(p0:PV):oP:=j5 p0 λa=>uV (a==2) iX (uV (a==4) iX (uV (a==5) iX (uV (a==6) iX (cY eV))))
def oH:=nK Ap
def rq(L:aY)(p0 p1:PV):oP:=Bk p0 λa b c d e f g h i j k l m=>Bk p1 λn o p q r s t u v w x y z=>gN (a==n) (od gy [H6 a b c d e f g h i j k l m,H6 n o p q r s t u v w x y z]) λa=>gN a (bM (b>o)) λa=>yK a (mO oH [e] λa=>Jt a (zy (e==r) (cw (i==v))))
def jM:=j4 rq
abbrev BL:bD (λ(a:lP->oP)(b:lP)=>Di a b λa b=>L8 [a,b]):=⟨⟩
def A0(L:aY)(p0 p1:PV):oP:=ij 4 p0 p1 λa b=>xF a 512 (BL lr [cB a,b])
def lG:=j4 A0
def Au(L:aY)(p0 p1:PV):oP:=ij 4 p0 p1 λa b=>lL (iw (b>64)) (cB []) 5 (Di lG [cB a,b] λ_ c=>Dk c [cB [],c] (iZ fU [cB a,ZH 0 b] 4 λa=>xE (cB a)))
def oK:=j4 Au
def Fi(L:aY)(p0:PV):oP:=j5 p0 λa=>mO dh [a] λb=>uV (!b) (PV.b8 [bK,eV]) (L8 [(cF (a+5)).tmod 7,iX])
def uo:=nK Fi
def rL(L:aY):cA (aw4):=λ(a,b,c,d,e,f,g,h,i,j,k,l,m,n,o,p)=>λq=>qi f e d (gX (c==3) (j5 o λa=>bM (b<a)) (uB (j5 p.1 λa=>bM (b>a)) c (Nr uo [b] λa _=>uG (aU a 7/\0<1) ([g,h,i,j,k,l,m,n,o,p.1][1+fj a*1]?.bind λa=>mcb a λa=>fh a 1 (cY (eU 4)))))) λr s=>gX (s !=a) (cM r 1 λa=>cw (a !=b)) (ig (q (a,b,c,d,e,aq f,g,h,i,j,k,l,m,n,o,p)) (FH r 2 λa=>fh a 2 (cY (eU 3))))
def yr(L:aY)(p0 p1 p2 p3:PV):oP:=uF 10 p0 3 p1 λa b=>iV p2 p3 λc d=>fi (c<0) (H9 c a) (uB (lF dh [d]) bK (fJ a c λa=>L.run (rL L) (c,d,5,b,cG b,0,a 0,a 1,a 2,a 3,a 4,a 5,a 6,a 7,a 8,a 9,())))
def ny:=mw4 yr
def yt(L:aY)(p0 p1 p2 p3:PV):oP:=uF 10 p0 3 p1 λa b=>iV p2 p3 λc d=>Dj ny [iW 10 a,eT b,c,d] λa=>gX (a==1) (cw (a==2)) λa=>u7 a
def jZ:=mw4 yt
def De(L:aY):cA (aq9):=λ(a,b,c,d,e,_)=>λf=>gf d c b (cY (cy e)) λg=>iY g 1 g 2 λh i=>OD e [g 0,cF (h+a),cF (i+a),g 3,g 4] (f (a,b,c,aq d,e++eS [g 0,cF (h+a),cF (i+a),g 3,g 4],()))
def J9(L:aY)(p0 p1:PV):oP:=ij 5 p0 p1 λa b=>L.run (De L) (b,a,cG a,0,[],())
def j3:=j4 J9
def uc(L:aY)(p0:PV):oP:=j5 p0 λa=>Eg a (-2305843009213693952) 2305843009213693952 λa=>u7 a
def fB:=nK uc
def A1(L:aY)(p0 p1 p2:PV):oP:=j5 p0 λa=>j5 p1 λb=>j5 p2 λc=>gN (cF (cF (cF (a.fdiv (2^min (Int.toNat 32) IntKind.i64.bits)-b.fdiv (2^min (Int.toNat 32) IntKind.i64.bits))+c.fdiv (2^min (Int.toNat 32) IntKind.i64.bits))+(cF (cF (cF (↑(BitVec.ofInt IntKind.i64.bits a&&&BitVec.ofInt IntKind.i64.bits 4294967295).toNat:Int)-cF (↑(BitVec.ofInt IntKind.i64.bits b&&&BitVec.ofInt IntKind.i64.bits 4294967295).toNat:Int))+cF (↑(BitVec.ofInt IntKind.i64.bits c&&&BitVec.ofInt IntKind.i64.bits 4294967295).toNat:Int))).fdiv (2^min (Int.toNat 32) IntKind.i64.bits))==0) (U (O (cF (↑(BitVec.ofInt IntKind.i64.bits (cF (cF (cF (cF (a.fdiv (2^min (Int.toNat 32) IntKind.i64.bits)-b.fdiv (2^min (Int.toNat 32) IntKind.i64.bits))+c.fdiv (2^min (Int.toNat 32) IntKind.i64.bits))+(cF (cF (cF (↑(BitVec.ofInt IntKind.i64.bits a&&&BitVec.ofInt IntKind.i64.bits 4294967295).toNat:Int)-cF (↑(BitVec.ofInt IntKind.i64.bits b&&&BitVec.ofInt IntKind.i64.bits 4294967295).toNat:Int))+cF (↑(BitVec.ofInt IntKind.i64.bits c&&&BitVec.ofInt IntKind.i64.bits 4294967295).toNat:Int))).fdiv (2^min (Int.toNat 32) IntKind.i64.bits))*2^min (Int.toNat 32) IntKind.i64.bits))|||BitVec.ofInt IntKind.i64.bits (cF (↑(BitVec.ofInt IntKind.i64.bits (cF (cF (cF (↑(BitVec.ofInt IntKind.i64.bits a&&&BitVec.ofInt IntKind.i64.bits 4294967295).toNat:Int)-cF (↑(BitVec.ofInt IntKind.i64.bits b&&&BitVec.ofInt IntKind.i64.bits 4294967295).toNat:Int))+cF (↑(BitVec.ofInt IntKind.i64.bits c&&&BitVec.ofInt IntKind.i64.bits 4294967295).toNat:Int)))&&&BitVec.ofInt IntKind.i64.bits 4294967295).toNat:Int))).toNat:Int)<=172800))) λd=>U (PV.b8 [(cF (↑(BitVec.ofInt IntKind.i64.bits (cF (cF (cF (cF (a.fdiv (2^min (Int.toNat 32) IntKind.i64.bits)-b.fdiv (2^min (Int.toNat 32) IntKind.i64.bits))+c.fdiv (2^min (Int.toNat 32) IntKind.i64.bits))+(cF (cF (cF (↑(BitVec.ofInt IntKind.i64.bits a&&&BitVec.ofInt IntKind.i64.bits 4294967295).toNat:Int)-cF (↑(BitVec.ofInt IntKind.i64.bits b&&&BitVec.ofInt IntKind.i64.bits 4294967295).toNat:Int))+cF (↑(BitVec.ofInt IntKind.i64.bits c&&&BitVec.ofInt IntKind.i64.bits 4294967295).toNat:Int))).fdiv (2^min (Int.toNat 32) IntKind.i64.bits))*2^min (Int.toNat 32) IntKind.i64.bits))|||BitVec.ofInt IntKind.i64.bits (cF (↑(BitVec.ofInt IntKind.i64.bits (cF (cF (cF (↑(BitVec.ofInt IntKind.i64.bits a&&&BitVec.ofInt IntKind.i64.bits 4294967295).toNat:Int)-cF (↑(BitVec.ofInt IntKind.i64.bits b&&&BitVec.ofInt IntKind.i64.bits 4294967295).toNat:Int))+cF (↑(BitVec.ofInt IntKind.i64.bits c&&&BitVec.ofInt IntKind.i64.bits 4294967295).toNat:Int)))&&&BitVec.ofInt IntKind.i64.bits 4294967295).toNat:Int))).toNat:Int)),PV.bool d])
def oY:=Gl A1
abbrev aj3:bD (λ(a b:Int)=>gN (iw (cF (a+b)>=0)) (bM (cF (a+b)<=172800)) λc=>L8 [cF (a+b),sA c]):=⟨⟩
def yu(L:aY)(p0 p1 p2:PV):oP:=j5 p0 λa=>iV p1 p2 λb c=>mO fB [a] λd=>gX d (od fB [b]) λd=>gX d (od fB [c]) (ig (Nr oY [a,b,c] λa b=>L8 [a,sA b]) (aj3 (cF (a-b)) c))
def j7:=Gl yu
def eK:cA (xD (lP×Unit)):=λ(a,b,c,d,e,_)=>λf=>cP (d<c) (Ef e d λg=>cQ g λg=>Nr j7 [g,b,a] λg h=>Ef e d λi=>arf d e i g λj=>cM j 2 λj=>Nr j7 [j,b,a] λj k=>arf d e i g λl=>gX (!h) (cw (!k)) (gJ uI 10 (f (a,b,c,aq d,kA (kA e d (i 0::eU g::over [] [i 2,i 3,i 4])) d (l 0::l 1::eU j::over [] [l 3,l 4]),())))) (xE (cy e))
def qJ(L:aY)(p0 p1:PV):oP:=ago p0 λ_ _ _ _ a=>j5 p1 λb=>lL (cG a==0) uI 16 (fJ a 0 (Ei λc=>LR (↑a.length:Int) 32 5 (L.run eK (b,c,cG (ajW a a),0,ajW a a,()))))
def cZ:=j4 qJ
def yw(L:aY)(p0:PV):oP:=Oz p0 λ_ a b c=>gN (iw (a>=0)) (bM (a<b)) λa=>gN a (bM (b<=172800)) λa=>gN a (bM (c>=1)) λa=>yK a (bM (c<=86400))
def j8:=nK yw
def ff(LG:auK->oP):cA (aw5):=λ(a,b,c,d,e,f,g,h,i,j,k,l,_)=>λm=>gN (iw (b>0)) (ajY b l λb=>cM b 0 λb=>bM (b>a)) (ig (zz (cF (b-1)) l l λn=>uZ n λn=>Ef l b λ_=>m (a,cF (b-1),c,d,e,f,g,h,i,j,k,uH l b (eU n),())) (Ef l b λ_=>j5 k λm=>LG (cF (c+m),d,e,f,g,h,i,j,k,uH l b (eU a),())))
def iu(L:aY)(yH:aq9->oP):cA (auK):=λ(a,b,c,d,e,f,g,h,i,j,_)=>λk=>j5 h λl=>cP (a<l) (mE j a (L.run (ff k) (a,cG j,a,b,c,d,e,f,g,h,i,j++gH a,()))) (yH (b,c,d,aq e,j,()))
def me(L:aY):cA (aq9):=λ(a,b,c,d,e,_)=>λf=>qi d c b (yV e) λg h=>bE (h !=a) (f (a,b,c,aq d,e,())) (mO j8 [vL g] (Ej (f (a,b,c,aq d,e,())) (cQ g λh=>L.run (iu L f) (h,a,b,c,d,g 0,g 1,g 2,g 3,e,()))))
def pG(L:aY)(p0 p1:PV):oP:=ij 4 p0 p1 λa b=>L.run (me L) (b,a,cG a,0,[],())
def fQ:=j4 pG
def mY:cA (Int×lP×Int×Int×Unit):=λ(a,b,c,d,_)=>λe=>qi d c b (cY eV) λ_ f=>uV (f==a) iX (e (a,b,c,aq d,()))
def rK(L:aY)(p0 p1:PV):oP:=ij 4 p0 p1 λa b=>L.run mY (UA b a)
def dS:=j4 rK
def Df:cA (lP×lP×Int×Int×Unit):=λ(a,b,c,d,_)=>ant d c b a a b
def Ka(L:aY)(p0 p1:PV):oP:=uF 5 p0 5 p1 λa b=>pq (SP a b) (L.run Df (b,a,cG a,0,()))
def zt:=j4 Ka
abbrev anz:bD (λ(a:PV)(b:lP->oP)=>(λc d e f g h i j=>acd a λa k l m n o p q=>amj (c==a) (d==k) (e==l) (f==m) λa=>amj a (g==n) (h==o) (i==p) λa=>yK a (od b [cy j,cy q]):Int->Int->Int->Bytes->Int->Bool->Bool->lP->oP)):=⟨⟩
def M1(L:aY)(p0 p1:PV):oP:=acd p0 (anz p1 zt)
def xB:=j4 M1
def oW:cA (auN):=λ(a,b,c,d,e,f,g,h,i,j,k,l,m,n,o,p,q,r,s,t,_,u,v,w,x,_)=>λy=>qi d c b (u7 m) λ_ m=>SL cZ [cJ [n,o,p,q,r],m] λm _=>iZ j3 [cy m,cF (a*86400)] 5 λm=>mO xB [SM s t d u v w x m,SM e f g h i j k l] λz=>uV (!(!z)) (sA z) (y (a,b,c,aq d,e,f,g,h,i,j,k,l,z,n,o,p,q,r,s,t,d,u,v,w,x,m,()))
def C3(L:aY)(p0 p1:PV):oP:=so p0 λ_ _ a b c d _ _ _ _ _ _ _=>acd p1 λe f g h i j k l=>fi (e<0) (H9 e c) (uB (lF dh [f]) eV (fJ c e (Ei λm=>mO jZ [iW 10 a,eT b,m,f] λa=>pq (!a) (fJ c e λa=>gd (a 0) λb=>cQ a λc=>FH a 3 λm=>mO dS [cB d,e] (Ej (Cl 5 a 4 λa=>iZ j3 [cy a,cF (f*86400)] 5 λa=>mO xB [cJ [e,f,bK,sq b,c,sA m,eV,cy a],SM e f g h i j k l] λa=>u7 a) (iZ fQ [cB d,e] 1 λd=>L.run oW (f,d,cG d,0,e,f,g,h,i,j,k,l,J,a 0,a 1,a 2,a 3,a 4,e,f,0,b,c,m,J,[],())))))))
def mD:=j4 C3
def Dg:cA (auO):=λ(a,b,c,d,e,f,g,h,i,j,k,l,m,n,o,p,q,_)=>λr=>gf c b a (xE (PV.rm 253 (List.map (λa=>a.fst) q) (List.map (λa=>a.snd) q))) λs=>mO mD [uY d e f g h i j k l m n o p,WL s] λt=>lL (!t) PV.sr 9 (uZ s λt=>iY s 1 s 2 λs u=>(RT (cJ [t,s,u]) q).bind λ_=>lL (pL (cJ [t,s,u]) q) PV.sr 6 (r (a,b,aq c,d,e,f,g,h,i,j,k,l,m,n,o,p,eu (cJ [t,s,u]) (eU c) q,())))
def Kb(L:aY)(p0 p1:PV):oP:=so p0 λa b c d e f g h i j k l m=>iI 8 p1 λn=>L.run Dg (n,cG n,0,a,b,c,d,e,f,g,h,i,j,k,l,m,[],())
def zu:=j4 Kb
def og:cA (Int×lP×Int×Int×Unit):=λ(a,b,c,d,_)=>λe=>gf d c b (cY (eU (-1))) λf=>gN (iw (d>0)) (cM f 0 λb=>cw (b==a)) λg=>gN g (FH f 4 λa=>cw a) λf=>uV f d (e (a,b,c,aq d,()))
def ud(L:aY)(p0 p1:PV):oP:=ij 5 p0 p1 λa b=>L.run og (UA b a)
def kU:=j4 ud
end
end Go.Ab
set_option maxHeartbeats 4000000
namespace Go.Ab
noncomputable section
abbrev avj:=lP×xD (lP×Unit)
abbrev avk:=fI (lP×lP×xD (Int×Bytes×xD (Int×Bool×lP×Int×lP×Unit)))
def pJ:cA (axa):=λ(a,b,c,d,e,_)=>λf=>gf e d c (cY (eU (-1))) λg=>gN (iw (cF (e+1)<(↑a.length:Int))) (cM g 0 λa=>cw (a==b)) λh=>gN h (FH g 3 λa=>cw a) λg=>uV g e (f (a,b,c,d,aq e,()))
def vG(L:aY)(p0 p1:PV):oP:=ij 5 p0 p1 λa b=>L.run pJ (a,b,a,cG a,0,())
def mi:=j4 vG
def C4(L:aY)(p0 p1 p2:PV):oP:=iI 5 p0 λa=>ij 5 p1 p2 λb c=>Dj kU [cy a,c] λd=>Dj mi [cy b,c] λc=>fi (d<0) (bM (c<0)) (uB (j6 b c 2 λb=>j6 a d 1 λa=>bM (b<a)) (PV.b8 [bK,bK,eV]) (L8 [d,c,iX]))
def mF:=Gl C4
def yL:cA (Int×lP×Int×Int×Unit):=λ(a,b,c,d,_)=>λe=>qi d c b (L8 [bK,eV]) λf g=>bE (g==a) (cQ f λa=>L8 [a,iX]) (e (a,b,c,aq d,()))
def Fj(L:aY)(p0 p1:PV):oP:=ij 2 p0 p1 λa b=>L.run yL (UA b a)
def lH:=j4 Fj
abbrev avl:bD (λ(a b:PV)(c:Bool)(d:anl->oP)(e:lP)(f:PV)(g:Int)(h:lP)(i j:Int)(k:lP)(l m n o p q r:PV)(s:Int×Int×Int×Int×Bool×Unit)(t:Int)(u:PV)(v w:Int->Int->PV)=>uZ a λx=>j5 b λy=>gX (x !=y) (cw (!c)) (ig (d (e,f,g,h,i,aq j,k,b,l,m,n,o,p,q,r,s)) (iI 5 r λc=>fJ e t (H8 7 λt=>cM a 2 λa=>ama mF [cy c,cy t,a] λa c t=>gX (!t) (cw (cz [s.1,s.2.1,s.2.2.1,s.2.2.2.1,sA s.2.2.2.2.1] [g,a,u,c,iX])) (ig (d (e,f,g,h,i,aq j,k,b,l,m,n,o,p,q,r,s)) (kz k [v a c] 40 (d (e,f,g,h,i,aq j,k++[w a c],b,l,m,n,o,p,q,r,s)))))))):=⟨⟩
def oc(L:aY):cA (anl):=λ(a,b,c,d,e,f,g,h,i,j,k,l,m,n,o,p)=>λq=>gf f e d (cY (cy g)) λr=>cQ r λs=>j5 i λt=>dX 253 b (avl r h J q a b c d e f g i j k l m n o p 0 bK (λa b=>PV.agg [c,a,PV.int .i64 0,b,PV.bool J]) λa b=>cJ [c,a,bK,b,eV]) λu v=>(RT (cJ [s,t,bK]) (u.zip v)).bind λw=>avl r h (pL (cJ [s,t,bK]) (u.zip v)) q a b c d e f g i j k l m n o p w w (λa b=>amc c a w b J) λa b=>amc c a w b J
def Wi(L:aY)(p0 p1 p2 p3:PV):oP:=so p0 λ_ _ _ _ _ _ a b _ _ _ _ _=>iI 8 p1 λc=>dX 253 p2 (j5 p3 λd=>gG c d λe f=>Nr lH [iW 2 a,f] λ_ a=>bE a (cQ e λ_=>L.run (oc L) (c,PV.sr,d,b,cG b,0,[],e 0,e 1,e 2,e 3,e 4,e 5,e 6,e 7,-1,0,0,0,J,())) (L.run (oc L) (c,PV.sr,d,b,cG b,0,[],e 0,e 1,e 2,e 3,e 4,e 5,e 6,e 7,-1,0,0,0,J,()))) λd e=>j5 p3 λf=>gG c f λg h=>Nr lH [iW 2 a,h] λa h=>bE h (cQ g λh=>(RT (cJ [a,h,bK]) (d.zip e)).bind λi=>bE (pL (cJ [a,h,bK]) (d.zip e)) (Cl 5 g 7 λa=>L.run (oc L) (c,PV.rm 253 d e,f,b,cG b,0,eS [f,FI a,i,bK,iX],g 0,g 1,g 2,g 3,g 4,g 5,g 6,g 7,f,FI a,i,0,Y,())) (L.run (oc L) (c,PV.rm 253 d e,f,b,cG b,0,[],g 0,g 1,g 2,g 3,g 4,g 5,g 6,g 7,-1,0,0,0,J,()))) (L.run (oc L) (c,PV.rm 253 d e,f,b,cG b,0,[],g 0,g 1,g 2,g 3,g 4,g 5,g 6,g 7,-1,0,0,0,J,()))
def IM:=mw4 Wi
def sU(L:aY)(c0:PV)(c1:PV)(c2:PV)(c3:PV)(c4:PV)(c5:PV)(c6:PV)(c7:PV)(c8:PV)(c9:PV)(BB:PV)(BC:PV)(BD:PV):oP:=iI 4 c0 λa=>BL tG [cB a]
def kL:=mw7 sU
def re(L:aY)(c0:PV)(c1:PV)(c2:PV)(c3:PV)(c4:PV)(c5:PV)(c6:PV)(c7:PV)(c8:PV)(c9:PV)(BB:PV)(BC:PV)(BD:PV):oP:=BL mz (eS [c9,BB,BC,BD])
def jX:=mw7 re
def sZ(L:aY)(c0:PV)(c1:PV)(c2:PV)(c3:PV)(c4:PV)(c5:PV)(c6:PV)(c7:PV)(c8:PV)(c9:PV)(BB:PV)(BC:PV)(BD:PV):oP:=iI 3 c1 λa=>BL pV [eT a]
def kM:=mw7 sZ
def uJ:cA (SN):=arc 8 λa b c d=>Ek dh d a.2.2.1 11 (cM c 9 λd=>Ek dh d a.2.2.1 11 (iY c 8 c 9 λd e=>lL (iw (d>e)) a.2.2.1 11 (gd (c 0) λc=>b (ajU a c))))
def A2(L:aY)(p0:PV):oP:=ajV 10 p0 L uJ
def oZ:=nK A2
def sV(L:aY)(c0:PV)(c1:PV)(c2:PV)(c3:PV)(c4:PV)(c5:PV)(c6:PV)(c7:PV)(c8:PV)(c9:PV)(BB:PV)(BC:PV)(BD:PV):oP:=iI 10 c2 λa=>BL oZ [iW 10 a]
def kN:=mw7 sV
def iy:cA (auG):=λ(a,b,c,d,e,_)=>λf=>qi d c b uD λg h=>iY g 1 g 0 λi j=>fi (j<0) (cM g 0 λb=>bM (b>=a)) (gJ d 9 (cQ g λg=>Ek dh g d 11 ((Eh (cJ [h,i]) e).bind (gJ d 6 (f (a,b,c,aq d,eu (cJ [h,i]) iX e,()))))))
def kq(L:aY)(p0 p1:PV):oP:=ij 3 p0 p1 λa b=>xF a 256 (L.run iy (b,a,cG a,0,[],()))
def fk:=j4 kq
def s7(L:aY)(c0:PV)(c1:PV)(c2:PV)(c3:PV)(c4:PV)(c5:PV)(c6:PV)(c7:PV)(c8:PV)(c9:PV)(BB:PV)(BC:PV)(BD:PV)(Qz:PV):oP:=ij 3 c3 Qz λa b=>BL fk [eT a,b]
def kO:=mw8 s7
def Dl:cA (aw6):=λ(a,b,c,d,e,f,g,_)=>λh=>gf f e d uD λi=>amh i iC f (gd (i 0) λj=>(Eh (sq j) g).bind (gJ f 6 (cQ i λj=>fi (j<0) (cM i 1 λa=>bM (a>=b)) (gJ f 9 (cM i 2 λj=>fi (j<0) (cM i 2 λa=>bM (a>=c)) (gJ f 9 (Cl 5 i 4 λj=>Di jS [cy j,a,bK,eU 172800] λ_ j=>Dk j [f,j] (gd (i 0) λi=>h (a,b,c,d,e,aq f,eu (sq i) iX g,())))))))))
def Kc(L:aY)(p0 p1 p2 p3:PV):oP:=ij 5 p0 p1 λa b=>iV p2 p3 λc d=>xF a 256 (L.run Dl (b,c,d,a,cG a,0,[],()))
def zA:=mw4 Kc
def sW(L:aY)(c0:PV)(c1:PV)(c2:PV)(c3:PV)(c4:PV)(c5:PV)(c6:PV)(c7:PV)(c8:PV)(c9:PV)(BB:PV)(BC:PV)(BD:PV)(Qz:PV)(c14:PV)(c15:PV):oP:=ij 5 c4 Qz λa b=>iV c14 c15 λc d=>BL zA [cy a,b,c,d]
def kP:List PV->Option PV|[PV.rp [c0,c1,c2,c3,c4,c5,c6,c7,c8,c9,BB,BC,BD],PV.rp [Qz],PV.rp [c14],PV.rp [c15]]=>sW cD c0 c1 c2 c3 c4 c5 c6 c7 c8 c9 BB BC BD Qz c14 c15|_=>Z
def yy(L:aY)(p0:PV):oP:=Oz p0 λ_ a b c=>if c=0 then Z else cY (OC (cF (cF (b-a)+c)) c)
def gO:=nK yy
def A3(L:aY)(p0:PV):oP:=Oz p0 λa b c d=>Dj gO (eS [a,b,c,d]) λa=>cY (cF (b+cF (cF (a-1)*d)))
def pc:=nK A3
def A4(L:aY)(p0 p1:PV):oP:=ago p0 λa b c d e=>Oz p1 λf g h i=>uV (cG e==0) iX (SL cZ [amd a b c d e,g] λ_ j=>Dj pc (eS [f,g,h,i]) λf=>SL cZ [amd a b c d e,f] λ_ a=>yK (j==0) (cw (a==0)))
def pd:=j4 A4
def rP(yH:ara->oP):cA (aw7):=λ(a,b,c,d,e,f,g,h,i,j,k,l)=>λm=>qi k j i (lL (iw (d>256)) c 17 (lL e c 8 (yH (a,b,f,g,aq h,())))) λn o=>j5 l.1 λp=>bE (o==p) (Dj gO [vL n] λo=>gX e (cM n 1 λa=>j5 l.2.2.1 λb=>zy (iw (a<b)) (j5 l.2.1 λa=>cM n 2 λb=>bM (a<b))) λe=>m (a,b,c,cF (d+o),e,f,g,h,i,j,aq k,l)) (m (a,b,c,d,e,f,g,h,i,j,aq k,l))
def rQ(L:aY):cA (ara):=λ(a,b,c,d,e,_)=>λf=>qi e d c uD λg h=>fi (h<0) (cM g 0 λa=>H9 a b) (gJ e 9 (mO j8 [vL g] λh=>gX (!h) (cM g 0 λa=>fJ b a λa=>lF pd [LP a,vL g]) (gJ e 10 (Dj gO [vL g] λh=>UC e a 4 (L.run (rP f) (a,b,e,h,J,c,d,e,acj e a,cG (acj e a),0,g 0,g 1,g 2,g 3,()))))))
def yz(L:aY)(p0 p1:PV):oP:=uF 4 p0 5 p1 λa b=>xF a 64 (L.run (rQ L) (a,b,a,cG a,0,()))
def nD:=j4 yz
def sY(L:aY)(c0:PV)(c1:PV)(c2:PV)(c3:PV)(c4:PV)(c5:PV)(c6:PV)(c7:PV)(c8:PV)(c9:PV)(BB:PV)(BC:PV)(BD:PV):oP:=uF 4 c5 5 c4 λa b=>BL nD [cB a,cy b]
def kQ:=mw7 sY
def yA(L:aY)(p0 p1:PV):oP:=ago p0 λ_ _ a _ b=>ago p1 λ_ _ c _ d=>fh (a !=c) 15 (I3 (cG b==0) (cw (cG d==0)) (eU 13) (fJ b (FI b) λa=>fJ d 0 λb=>iY a 0 b 0 λc d=>fh (c !=d) 13 (iY b 2 a 1 λa b=>fh (iw (a<b)) 10 (cY bK))))
def nE:=j4 yA
def pe(L:aY):cA (aw8):=λ(a,b,c,_)=>λd=>zz (cF ((↑b.length:Int)-1)) b b λe=>uZ e λe=>Nr lH [iW 2 a,e] λe f=>I3 (!f) ((Eh (eU e) c).bind λa=>cw a) (iW 1 b) (mE b e (d (a,b++gH e,eu (eU e) iX c,())))
def C5(L:aY)(p0 p1:PV):oP:=ij 2 p0 p1 λa b=>L.run (pe L) (a,[b],eu (eU b) iX [],())
def qP:=j4 C5
def pf:cA (Int×lP×Int×Int×Unit):=λ(a,b,c,d,_)=>λe=>qi d c b (cY eV) λ_ f=>uV (f==a) iX (e (a,b,c,aq d,()))
def C6(L:aY)(p0 p1 p2:PV):oP:=iI 2 p0 λa=>iV p1 p2 λb c=>iZ qP [iW 2 a,b] 1 λa=>L.run pf (UA c a)
def qQ:=Gl C6
def Ao(L:aY)(p0:PV)(c1:PV):oP:=j5 p0 λa=>yK (iw (a>=0)) ((aJ 5 c1).bind λb=>bM (a<(↑b.length:Int)))
def iH:=mw6 Ao
def Fk(L:aY)(p0 p1 p2 p3:PV):oP:=iV p0 p1 λa b=>uF 5 p2 4 p3 λc d=>F7 iH [a,ky [cy c]] (lF iH [b,ky [cy c]]) (cw (a==b)) (gJ (eU 9) 0 (mO dS [cB d,a] λa=>gX a (od dS [cB d,b]) (gJ bK 17 uD)))
def oh:=mw4 Fk
def vN(L:aY):cA (aw9):=λ(a,b,c,d,e,f,g,h,_)=>λi=>gf f e d uD λj=>iY j 0 j 1 λk l=>Di oh [k,l,cy b,cB c] λk l=>Dk k [f,k] (Dk l [f,l] (uZ j λk=>fJ b k λk=>cQ j λl=>fJ b l λl=>Dj nE [LP k,LP l] (F6 f (uZ j λk=>(Eh (eU k) g).bind λk=>gX k (cM j 1 λa=>(Eh (eU a) h).bind λa=>cw a) (gJ f 6 (UC f a 2 (iY j 1 j 0 λk l=>mO qQ [iW 2 (acj f a),k,l] (gJ f 19 (iY j 0 j 1 λj k=>i (a,b,c,d,e,aq f,eu (eU j) iX g,eu (eU k) iX h,()))))))))))
def C7(L:aY)(p0 p1 p2:PV):oP:=iI 2 p0 λa=>uF 5 p1 4 p2 λb c=>xF a 128 (L.run (vN L) (a,b,c,a,cG a,0,[],[],()))
def qR:=Gl C7
def sX(L:aY)(c0:PV)(c1:PV)(c2:PV)(c3:PV)(c4:PV)(c5:PV)(c6:PV)(c7:PV)(c8:PV)(c9:PV)(BB:PV)(BC:PV)(BD:PV):oP:=iI 2 c6 λa=>uF 5 c4 4 c5 λb c=>BL qR [iW 2 a,cy b,cB c]
def kR:=mw7 sX
def jc:cA (axb):=λ(a,b,c,d,e,f,g,_)=>λh=>gf f e d uD λi=>iY i 0 i 1 λj k=>Di oh [j,k,cy a,cB b] λj k=>gX (j !=0) (cM i 2 λa=>bM (a<0)) λj=>gX j (cM i 2 λa=>bM (a>=c)) (gJ f 9 (Dk k [f,k] (aef i a 4 1 2 λj k l=>ama mF [cy j,cy k,l] λ_ _ j=>lL (!j) f 19 ((uV (amb [i 0,i 1,i 2]) (H5 i) Z).bind λj=>(Eh j g).bind (gJ f 6 ((uV (amb [i 0,i 1,i 2]) (H5 i) Z).bind λi=>h (a,b,c,d,e,aq f,eu i iX g,())))))))
def lC(L:aY)(p0 p1 p2 p3:PV):oP:=uF 3 p0 5 p1 λa b=>ij 4 p2 p3 λc d=>xF a 128 (L.run jc (b,c,d,a,cG a,0,[],()))
def fN:=mw4 lC
def s8(L:aY)(c0:PV)(c1:PV)(c2:PV)(c3:PV)(c4:PV)(c5:PV)(c6:PV)(c7:PV)(c8:PV)(c9:PV)(BB:PV)(BC:PV)(BD:PV)(Qz:PV):oP:=uF 3 c7 5 c4 λa b=>ij 4 c5 Qz λc d=>BL fN [eT a,cy b,cB c,d]
def kS:=mw8 s8
def sR(L:aY)(c0:PV)(c1:PV)(c2:PV)(c3:PV)(c4:PV)(c5:PV)(c6:PV)(c7:PV)(c8:PV)(c9:PV)(BB:PV)(BC:PV)(BD:PV)(Qz:PV):oP:=ij 4 c8 Qz λa b=>BL lG [cB a,b]
def kT:=mw8 sR
abbrev WQ:bD (λ(a b c d e f g h i j:lP)(k l m:Int)=>ky [iW 4 a,eT b,iW 10 c,eT d,cy e,iW 4 f,iW 2 g,eT h,iW 4 i,iW 6 j,k,l,m]):=⟨⟩
abbrev avm:bD (λ(a:lP->oP)(b c d e f g h i j k:lP)(l m n o:Int)(p:lP->oP)(q:lP)(r:lP->oP)(s:lP)(t:lP->oP)(u:lP)(v:oP)=>Di a [WQ b c d e f g h i j k l m n] λa b=>ZL b o a p q (aq o) (Di r s λa b=>ZL b (aq (aq o)) a t u (aq (aq (aq o))) v)):=⟨⟩
def yB(L:aY)(p0:PV):oP:=so p0 λa b c d e f g h i j k l m=>Di kL [WQ a b c d e f g h i j k l m] λn o=>ZL o bK n kM [WQ a b c d e f g h i j k l m] (aq 0) (avm kN a b c d e f g h i j k l m (aq (aq 0)) kO [WQ a b c d e f g h i j k l m,ky [cG c]] kP [WQ a b c d e f g h i j k l m,ky [cG a],ky [cG b],ky [cG c]] kQ [WQ a b c d e f g h i j k l m] (avm kR a b c d e f g h i j k l m (aq (aq (aq (aq (aq (aq 0)))))) kS [WQ a b c d e f g h i j k l m,ky [cG a]] kT [WQ a b c d e f g h i j k l m,ky [cG a]] jX [WQ a b c d e f g h i j k l m] (L8 [bK,bK,bK])))
def fg:=nK yB
abbrev OH:bD (λ(a:lP)(b:PV)(c:oP)=>lL (SO a 1024) b 5 c):=⟨⟩
def qg(L:aY):cA (auP):=λ(a,b,c,d,e,f,g,h,i,j,k,l,m,n,o,p,q,r,_)=>λs=>cP (d<c) (RZ IM [uY e f g h i j k l m n o p q,fR a,b,d] 5 r 40 (λa=>a) λt=>OH (r++t) uI (s (a,b,c,aq d,e,f,g,h,i,j,k,l,m,n,o,p,q,r++t,()))) (xE (cy r))
def Ke(L:aY)(p0 p1:PV):oP:=so p0 λa b c d e f g h i j k l m=>iI 8 p1 λn=>acb fg [uY a b c d e f g h i j k l m] λ_ _ o=>Dk o [uI,o] (OH n uI (mcJ zu [uY a b c d e f g h i j k l m,fR n] λo=>(bY 2 o).bind λo=>dX 253 (zq7 o) (mcG o 1 (F6 uI (L.run (qg L) (n,PV.sr,cG n,0,a,b,c,d,e,f,g,h,i,j,k,l,m,[],())))) λp q=>mcG o 1 (F6 uI (L.run (qg L) (n,PV.rm 253 p q,cG n,0,a,b,c,d,e,f,g,h,i,j,k,l,m,[],())))))
def zx:=j4 Ke
def oV(L:aY)(Cd:anm->oP):cA (auQ):=λ(a,b,c,d,e,f,g,h,i,j,k,l,m,n,o,_,p,q,r,s,_,t,u,v,w,x,y,z,A,B,C10,D,E,F,G,H)=>λI10=>qi d c b (OH G (fR []) (Cd (e,f,g,aq h,t,u,v,w,x,y,z,A,B,C10,D,E,F,G,H))) λ_ H=>SL cZ [cJ [i,j,k,l,m],H] λH _=>RZ j3 [cy H,cF (a*86400)] 5 G 80 (λa=>[SM n o d p q r s a]) λH=>bE (!(iw ((↑(G++[SM n o d p q r s H]).length:Int)<=1024))) (OH (G++[SM n o d p q r s H]) (fR []) (Cd (e,f,g,aq h,t,u,v,w,x,y,z,A,B,C10,D,E,F,G++[SM n o d p q r s H],()))) (I10 (a,b,c,aq d,e,f,g,h,i,j,k,l,m,n,o,d,p,q,r,s,H,t,u,v,w,x,y,z,A,B,C10,D,E,F,G++[SM n o d p q r s H],()))
def zs(L:aY)(Zn:ZE->oP):cA (anm):=λ(a,b,c,d,e,f,g,h,i,j,k,l,m,n,o,p,q)=>λr=>gf d c i (Zn (a,aq b,e,f,g,h,i,j,k,l,m,n,o,p,q)) λs=>cM s 2 λs=>mO jZ [iW 10 g,eT h,s,b] (Ej (lL (iw ((↑q.2.1.length:Int)>1024)) (fR []) 5 (r (a,b,c,aq d,e,f,g,h,i,j,k,l,m,n,o,p,q))) (fJ i d λs=>gd (s 0) λt=>cQ s λu=>FH s 3 λv=>mO dS [cB j,d] (Ej (Cl 5 s 4 λs=>RZ j3 [cy s,cF (b*86400)] 5 q.2.1 80 (λa=>[PV.agg [d,b,PV.int .i64 0,PV.str t,u,PV.bool v,PV.bool J,PV.rs 5 a]]) λs=>OH (q.2.1++[PV.agg [d,b,PV.int .i64 0,PV.str t,u,PV.bool v,PV.bool J,PV.rs 5 s]]) (fR []) (r (a,b,c,aq d,e,f,g,h,i,j,k,l,m,n,o,p,q.1,q.2.1++eS [d,b,bK,sq t,u,sA v,eV,cy s],()))) (iZ fQ [cB j,d] 1 λw=>L.run (oV L r) (b,w,cG w,0,a,b,c,d,s 0,s 1,s 2,s 3,s 4,d,b,0,t,u,v,J,[],e,f,g,h,i,j,k,l,m,n,o,p,q)))))
def FD(L:aY):cA (ZE):=λ(a,b,c)=>λd=>cP (b<=a) (L.run (zs L d) (a,b,(↑c.2.2.2.2.1.length:Int),0,c)) (xE (fR c.2.2.2.2.2.2.2.2.2.2.2.2.2.1))
def M3(L:aY)(p0 p1 p2:PV):oP:=so p0 λa b c d e f g h i j k l m=>iV p1 p2 λn o=>L.run (FD L) (o,n,a,b,c,d,e,f,g,h,i,j,k,l,m,[],())
def Ce:=Gl M3
abbrev anA:bD (λ(a:lP->oP)(b c:Int)(d:oP)=>(λ_ _ e=>Dk e [iW 8 [],e] (F7 a [b] (lF a [c]) (bM (c<b)) (gJ (iW 8 []) 11 (lL (iw (cF (c-b)>=8)) (iW 8 []) 5 d))):Int->Int->Int->oP)):=⟨⟩
def BZ(L:aY)(p0 p1 p2:PV):oP:=so p0 λa b c d e f g h i j k l m=>iV p1 p2 λn o=>acb fg [uY a b c d e f g h i j k l m] (anA dh n o (aq7 Ce [uY a b c d e f g h i j k l m,n,o] λa b=>L8 [fR a,b]))
def pR:=Gl BZ
def CM(L:aY)(p0 p1 p2:PV):oP:=so p0 λa b c d e f g h i j k l m=>iV p1 p2 λn o=>acb fg [uY a b c d e f g h i j k l m] λ_ _ p=>Dk p [cJ Ns,p] (aq7 pR [uY a b c d e f g h i j k l m,n,o] (UD λn=>SL zx [uY a b c d e f g h i j k l m,fR n] (UD λc=>auB oK (yU (cB i) a) (UD λd=>uE jA [Bm a b n c d j k l m] 9 λa=>xE (WM a)))))
def jz:=Gl CM
def CI(L:aY)(p0 p1:PV):oP:=ace p0 λa b c d e f g h i j k l m=>j5 p1 λn=>Eg n m 3155932800 (gJ (WN a b c d e f g h i j k l m) 10 (xE (WN a b c d e f g h i j k l n)))
def qz:=j4 CI
def Ar(L:aY):cA (avj):=λ(a,b,c,d,e,f,_)=>λg=>LW e a (iW 2 f) λh=>bE (e==b) (uZ h λi=>bE (d !=0) (kz f [PV.agg [PV.int .i64 (if c>i then c else i),d]] 16 (g (a,b,c,d,aq e,f++eS [ZH c i,d],()))) (kz f [PV.agg [PV.int .i64 (if c>i then c else i),h 1]] 16 (g (a,b,c,d,aq e,f++eS [ZH c i,h 1],())))) (kz f [auC h] 16 (g (a,b,c,d,aq e,f++[auC h],())))
def GV(L:aY)(p0 p1 p2 p3:PV):oP:=ij 2 p0 p1 λa b=>iV p2 p3 λc d=>L.run (Ar L) (a,b,c,d,0,[],())
def pQ:=mw4 GV
def zf(L:aY)(p0:PV):oP:=j5 p0 λa=>OA a (a<=3155932800)
def iP:=nK zf
def xZ(L:aY)(p0 p1 p2:PV):oP:=agn p0 λa b c=>iV p1 p2 λd e=>fi (d<0) (H9 d b) (gJ (Ia a b c) 36 (Ek iP e (Ia a b c) 10 (iZ pQ [iW 2 b,d,e,bK] 2 λb=>xE (Ia a b c))))
def nd:=Gl xZ
def yb(L:aY)(p0 p1:PV):oP:=ace p0 λa b c d e f g h i j k l m=>j5 p1 λn=>Kw nd [Ia j k l,n,m] 3 λn o=>Dk o [WN a b c d e f g h i j k l m,o] (xE (cJ [cB a,eT b,fR c,cy d,cB e,iW 6 f,g,h,i,ku n 0,ku n 1,ku n 2,m]))
def nf:=j4 yb
def ER(L:aY)(p0:PV):oP:=Bk p0 λ_ _ _ _ a _ _ _ _ _ _ _ _=>gX (a==2) (cw (a==4)) λb=>gX b (cw (a==5)) λb=>gX b (cw (a==6)) λa=>u7 a
def tf:=nK ER
def vu(L:aY)(p0 p1:PV):oP:=Bk p0 λa b c d e f g h i j k l m=>Bk p1 λn o p q r s t u v w x y z=>gN (a==n) (od iN [H6 a b c d e f g h i j k l m,H6 n o p q r s t u v w x y z]) λn=>gN n (bM (b>o)) λn=>yK n (mO tf [H6 a b c d e f g h i j k l m] λa=>Jt a (zy (e==r) (cw (i==v))))
def l6:=j4 vu
def vv(L:aY):cA (avk):=λ(a,b,c,d,e,f,g,h,i,j,k,l,m,n,o,p,q,r,s,t,u)=>λv=>ep b e (fJ e b λw=>mO l6 [H6 f g h i j k l m n o p q r,Bj w] λw=>gN (!w) (j6 e b 3 λb=>bM (b>a)) (ig (fJ e b λu=>kz t [Bj u] 128 (v (a,aq b,c,d,e,f,g,h,i,j,k,l,m,n,o,p,q,r,s,t++[Bj u],()))) (v (a,aq b,c,d,e,f,g,h,i,j,k,l,m,n,o,p,q,r,s,t,u)))) (lL (iw ((↑t.length:Int)>=256)) (Ia c d e) 5 (RZ pQ [iW 2 d,f,a,g] 2 t 128 (λ_=>[H6 f g h i j k l m n o p q r]) λa=>xE (Ia c a (t++[H6 f g h i j k l m n o p q r]))))
def CG(L:aY)(p0 p1 p2:PV):oP:=agn p0 λa b c=>Bk p1 λd e f g h i j k l m n o p=>j5 p2 λq=>Ek iP q (Ia a b c) 10 (Dj pY [H6 d e f g h i j k l m n o p] (F6 (Ia a b c) (lL (iw (d>=(↑b.length:Int))) (Ia a b c) 36 (fJ b d λr=>cQ r λr=>fi (e<=r) (bM (g<=q)) (gJ (Ia a b c) 37 (L.run (vv L) (q,0,a,b,c,d,e,f,g,h,i,j,k,l,m,n,o,p,0,[],())))))))
def qx:=Gl CG
def CH(L:aY)(p0 p1:PV):oP:=ace p0 λa b c d e f g h i j k l m=>Bk p1 λn o p q r s t u v w x y z=>Kw qx [Ia j k l,H6 n o p q r s t u v w x y z,m] 3 λn o=>Dk o [WN a b c d e f g h i j k l m,o] (xE (cJ [cB a,eT b,fR c,cy d,cB e,iW 6 f,g,h,i,ku n 0,ku n 1,ku n 2,m]))
def qy:=j4 CH
abbrev amk:bD (λ(a b:lP)(c d e:Nat)(f:PV)=>([ku a 0,ku a 1,ku a 2,ku a 3,ku a 4,ku a 5,ku a 6,ku a 7,ku a 8,ku b c,ku b d,ku b e,f]:lP)):=⟨⟩
def QK(L:aY)(p0 p1:PV):oP:=ace p0 λa b c d e f g h i j k l m=>mcA 15 p1 λ_=>iY p1 0 p1 1 λn o=>iY p1 2 p1 3 λp q=>iY p1 4 p1 5 λr s=>gd (p1 6) λt=>cM p1 7 λu=>iY p1 8 p1 9 λv w=>iY p1 10 p1 11 λx y=>FH p1 12 λz=>Cl 5 p1 13 λA=>cM p1 14 λB=>bE (n==0) (Kw qy [WN a b c d e f g h i j k l m,H6 o p q r s t u v w x y z A] 13 λa b=>L8 [cJ (amk a a 9 10 11 (ku a 12)),b]) (bE (n==1) (Kw nf [WN a b c d e f g h i j k l m,B] 13 λa b=>L8 [cJ (amk a a 9 10 11 (ku a 12)),b]) (Kw qz [WN a b c d e f g h i j k l m,B] 13 λa b=>L8 [cJ (amk a a 9 10 11 (ku a 12)),b]))
def EW:=j4 QK
def Hz(L:aY)(p0:PV):oP:=Oz p0 λ_ a b c=>gN (iw (a>=0)) (bM (a<=172800)) λd=>gN d (bM (b>=0)) λd=>gN d (bM (b<=172800)) λd=>gN d (bM (a<b)) λa=>gN a (bM (c>=1)) λa=>yK a (bM (c<=86400))
def mP:=nK Hz
def FE:cA (arb):=λ(a,b)=>λc=>gf a (↑b.2.2.2.2.1.length:Int) b.2.2.2.2.1 (u7 Y) λd=>Cl 5 d 4 λd=>pq (SO d 40) (c (aq a,b))
def M4(L:aY)(p0:PV):oP:=so p0 λa b c d e f g h i j k l m=>gX (SO a 70) (bM ((↑b.length:Int)>70)) λn=>gX n (bM ((↑c.length:Int)>70)) λn=>gX n (bM ((↑d.length:Int)>70)) λn=>gX n (bM ((↑e.length:Int)>40)) λn=>gX n (bM ((↑f.length:Int)>70)) λn=>gX n (bM ((↑g.length:Int)>140)) λn=>gX n (bM ((↑h.length:Int)>140)) λn=>gX n (bM ((↑i.length:Int)>70)) (uB (bM ((↑j.length:Int)>20)) eV (L.run FE (0,a,b,c,d,e,f,g,h,i,j,k,l,m,())))
def Cf:=nK M4
def Be:cA (arb):=λ(a,b)=>λc=>gf a (↑b.2.2.2.2.2.1.length:Int) b.2.2.2.2.2.1 (u7 Y) λd=>mO mP [vL d] λe=>gN e (cM d 2 λa=>cM d 1 λb=>cM d 3 λc=>if c=0 then Z else bM (cF ((cF (a-b)).tdiv c)>40)) λd=>pq d (c (aq a,b))
def HA(L:aY)(p0:PV):oP:=so p0 λa b c d e f g h i j k l m=>mO Cf [uY a b c d e f g h i j k l m] λn=>pq (!n) (L.run Be (0,a,b,c,d,e,f,g,h,i,j,k,l,m,()))
def wE:=nK HA
def nU:cA (lP×Int×Unit):=λ(a,b,_)=>λc=>LW b a eV (H8 13 λd=>I3 (SO d 40) (fJ a b λa=>(bU (a 6)).bind λa=>bM ((↑(List.length a):Int)>100)) iX (c (a,aq b,())))
def BW(L:aY)(p0 p1:PV):oP:=ank p0 λa b c d e f g h i j k l m n o _ _=>iI 15 p1 λp=>mO wE [uY a b c d e f g h i j k l m] λa=>gX (!a) (bM ((↑p.length:Int)>30)) (uB (gN (iw (o>=n)) (bM (n>=0)) λa=>gN a (bM (o<=36524)) λa=>gN a (bM (cF (o-n)>2)) λa=>zy a (bM (cF (o-n)<8))) iX (L.run nU (p,0,())))
def vX:=j4 BW
def EP(L:aY):cA (xD (lP×Unit)):=λ(a,b,c,d,e,_)=>λf=>cP (b<a) (kz e [PV.agg [PV.int .i64 (-1),PV.int .i64 0]] 16 (f (a,aq b,c,d,e++eS [eU (-1),bK],()))) (xE (cJ [d,iW 2 e,vM]))
def IA(L:aY)(p0 p1:PV):oP:=iV p0 p1 λa b=>Eg a 1 8 (gJ (cJ [bK,vM,vM]) 36 (Eg b 0 86400 (gJ (cJ [bK,vM,vM]) 2 (L.run (EP L) (a,0,0,b,[],())))))
def GU:=j4 IA
def uK(yH:lP×Int×Int×Unit->oP):cA (axh):=λ(a,b,c,d,e,f)=>λg=>qi d c a (yH (a,b,aq c,())) λ_ h=>j5 e λi=>gN (h==i) (j6 a d 1 λa=>Ju f.1 a) λh=>gN h (fJ a d λa=>FH a 3 λa=>mcb f.2.2.1 λb=>cw (a==b)) (gJ c 6 (g (a,b,c,aq d,e,f)))
abbrev aj4:bD (λ(a:Int)(b:lP)(c:oP)(d:(lP×Int×Int×Unit->oP)->PV->Int->oP)=>(λe=>ep a b (fJ b a λa=>cM a 0 (d e a)) c:(lP×Int×Int×Unit->oP)->oP)):=⟨⟩
def Bn(L:aY):cA (lP×Int×Int×Unit):=λ(a,b,c,_)=>aj4 c a uD λd e f=>fi (f<0) (cM e 0 λa=>bM (a>=b)) λf=>gX f (cM e 1 λa=>bM (a<0)) λf=>gX f (cM e 1 λa=>bM (a>=b)) λf=>gX f (cM e 0 (RU e 1)) (gJ c 9 (cM e 2 λf=>fi (f<1) (cM e 2 λa=>bM (a>14400)) (gJ c 2 (L.run (uK d) (a,b,c,0,e 0,e 1,e 2,e 3,())))))
def HB(L:aY)(p0 p1:PV):oP:=ij 4 p0 p1 λa b=>L.run (Bn L) (a,b,0,())
def wJ:=j4 HB
def HC(L:aY)(p0 p1:PV):oP:=ij 4 p0 p1 λa b=>xF a 512 (BL wJ [cB a,b])
def qj:=j4 HC
def AA(L:aY)(arj:acf->oP):cA (ame):=avf arj
def tC(avn:Int×Int×Int×lP×Unit->oP):cA (xD (lP×Unit)):=λ(a,b,c,d,e,_)=>λf=>cP (d<a) (SQ e c 1 0 (W7 e c 1 0 b λ_ _ g=>uZ g λg=>Ef e b λh=>(fZ 1 (h 0)).bind (ark e b d c d λh i=>cP (cF (g+h)<i) (SQ e c 1 0 (zz c e e λg=>(fZ 1 (g 0)).bind (ark e c b b d λg h=>W7 e c 1 0 d λi j k=>f (a,b,c,aq d,uH e c (aei i j d k (cF (g+h))),())))) (f (a,b,c,aq d,e,()))))) (avn (a,b,aq c,e,()))
def tE(L:aY)(avo:Int×Int×lP×Unit->oP):cA (fI (lP×Unit)):=λ(a,b,c,d,_)=>λe=>cP (c<a) (L.run (tC e) (a,b,c,0,d,())) (avo (a,aq b,d,()))
def tF(L:aY):cA (Int×Int×lP×Unit):=λ(a,b,c,_)=>λd=>cP (b<a) (L.run (tE L d) (a,b,0,c,())) (yV (List.map PV.strip c))
def AB(L:aY):cA (acf):=λ(a,b,c,d,e,_)=>λf=>ep d a (fJ a d λg=>FH g 3 λg=>gX g (cw (!c)) λg=>gN g (j6 a d 2 λb=>j6 a d 0 λc=>Ef e c λf=>(fZ 1 (f 0)).bind λ_=>j6 a d 1 λa=>e[fj c]?.bind λd=>(fZ 1 (d 0)).bind λd=>if aU a d.length then e[fj c]?.bind λc=>(fZ 1 (c 0)).bind λc=>c[fj a]?.bind λa=>cM a 0 λa=>bM (b<a)else Z) (ig (gG a d λ_ g=>SQ e g 1 0 (fJ a d λh=>cQ h λh=>fJ a d (Ei λi=>W7 e g 1 0 h λj k l=>f (a,b,c,aq d,uH e g (aei j k h l i),())))) (f (a,b,c,aq d,e,())))) (L.run (tF L) (b,0,e,()))
def Az(L:aY):cA (acf):=λ(a,b,c,d,e,_)=>λf=>cP (d<b) (L.run (AA L f) (a,b,c,d,0,e,[],())) (L.run (AB L) (a,b,c,0,e,()))
def G4(L:aY)(p0 p1 p2:PV):oP:=ij 4 p0 p1 λa b=>mcb p2 λc=>L.run (Az L) (a,b,c,0,[],())
def pU:=Gl G4
def oM(L:aY)(Lk:abn->oP):cA (amf):=avg Lk
def oN(L:aY):cA (abn):=λ(a,b,c,d,e,_)=>λf=>cP (d<a) (L.run (oM L f) (a,b,c,d,0,e,())) (cY (cB e))
def CO(L:aY)(p0 p1:PV):oP:=ij 4 p0 p1 λa b=>iZ pU [cB a,b,eV] 1 λc=>iZ pU [cB a,b,iX] 1 λa=>L.run (oN L) (b,c,a,0,[],())
def mw:=j4 CO
def GY(L:aY)(p0 p1:PV):oP:=ij 4 p0 p1 λa b=>lL (iw (b>64)) (cB []) 5 (Di qj [cB a,b] λ_ c=>Dk c [cB [],c] (iZ mw [cB a,b] 4 λa=>xE (cB a)))
def vY:=j4 GY
def Dm:cA (lP×Bytes×Int×Unit):=λ(a,b,c,_)=>λd=>LW c a (eU (-1)) λe=>gd (e 0) λe=>uV (e==b) c (d (a,b,aq c,()))
def Kf(L:aY)(p0 p1:PV):oP:=iI 4 p0 λa=>gd p1 λb=>L.run Dm (a,b,0,())
def zB:=j4 Kf
def pK:cA (Bytes×Int×Unit):=avi 65 90 97 122
def vH(L:aY)(p0:PV):oP:=ajZ p0 L pK
def mj:=nK vH
def Bo:cA (lP×Int×Unit):=agr mj λa b c=>fJ a b λd=>gd (d 0) λd=>Dj zB [cB a,sq d] λd=>lL (iw (d<b)) b 6 (fJ a b λd=>cQ d λd=>fi (d<0) (j6 a b 1 λa=>bM (a>=16)) λd=>gX d (j6 a b 3 λa=>bM (a<0)) λd=>gX d (j6 a b 3 λa=>bM (a>3600)) (gJ b 2 (c (a,aq b,()))))
def HD(L:aY)(p0:PV):oP:=ZK 4 p0 L Bo
def wK:=nK HD
def B5(L:aY)(p0:PV):oP:=j5 p0 λa=>OA a (a<=36524)
def eX:=nK B5
def Bp:cA (Bytes×Int×Unit):=ari 65 90 97 122 λa b c d e=>gN (!e) (gN (ZI d 48) (OB d 57) λa=>cw (!a)) λe=>amj e (F5 d !=45) (F5 d !=95) (F5 d !=46) λd=>pq d (c (a,aq b,()))
def HE(L:aY)(p0:PV):oP:=gd p0 λa=>I3 ((↑(List.length a):Int)==0) (bM ((↑(List.length a):Int)>32)) eV (L.run Bp (a,0,()))
def qk:=nK HE
def uM(iO:lP×Int×Unit->oP):cA (lP×Int×Int×Unit):=λ(a,b,c,_)=>aj0 c b a λc=>cM c 8 λc=>F7 eX [c] (j6 a b 9 λa=>lF eX [a]) (j6 a b 8 λc=>j6 a b 9 λa=>bM (c>a)) (gJ b 11 (iO (a,aq b,())))
def Bq(L:aY):cA (lP×Int×Unit):=agr qk λa b c=>L.run (uM c) (a,b,0,())
def HF(L:aY)(p0:PV):oP:=ZK 10 p0 L (Bq L)
def wL:=nK HF
abbrev aej:bD (λ(a:lP)(b:Int)(c:Nat)(d:Int)=>j6 a b c λb=>j6 a d c λa=>cw (b==a)):=⟨⟩
def gn(yH:lP×Int×Int×Unit->oP):cA (lP×fI Unit):=λ(a,b,c,d,_)=>λe=>qi d c a (yH (a,b,aq c,())) λ_ f=>gG a c λ_ g=>gN (f==g) (aej a d 1 c) (gJ c 6 (e (a,b,c,aq d,())))
def kv(L:aY):cA (lP×Int×Int×Unit):=λ(a,b,c,_)=>aj4 c a uD λd _ e=>fi (e<0) (j6 a c 0 λa=>bM (a>=b)) (gJ c 9 (fJ a c λe=>cQ e λe=>Ek eX e c 11 (L.run (gn d) (a,b,c,0,()))))
def mV(L:aY)(p0 p1:PV):oP:=ij 3 p0 p1 λa b=>xF a 256 (L.run (kv L) (a,b,0,()))
def gP:=j4 mV
def Kg(L:aY)(p0:PV):oP:=j5 p0 λa=>OA a (a<8)
def FJ:=nK Kg
def uN(iO:lP×Int×Unit->oP):cA (lP×Int×Int×Unit):=λ(a,b,c,_)=>aj0 c b a λc=>cQ c λc=>Ek FJ c b 2 (iO (a,aq b,()))
def Br(L:aY):cA (lP×Int×Unit):=agr jY λa b c=>L.run (uN c) (a,b,0,())
def HG(L:aY)(p0:PV):oP:=ZK 3 p0 L (Br L)
def wM:=nK HG
def Dn:cA (lP×Bytes×Int×Unit):=λ(a,b,c,_)=>λd=>LW c a (eU (-1)) λe=>gd (e 0) λe=>uV (e==b) c (d (a,b,aq c,()))
def Kh(L:aY)(p0 p1:PV):oP:=iI 5 p0 λa=>gd p1 λb=>L.run Dn (a,b,0,())
def zC:=j4 Kh
def Bs:cA (lP×Int×Int×Unit):=λ(a,b,c,_)=>aj4 c a (cY bK) λd _ e=>I3 (iw (e<0)) (j6 a c 0 λa=>bM (a>=b)) (eU 9) (gN (iw (c>0)) (aej a c 0 (cF (c-1))) λe=>fh e 13 (fJ a c λe=>cQ e λe=>fi (e<0) (j6 a c 1 λb=>j6 a c 2 λa=>bM (b>a)) λe=>gX e (j6 a c 2 λa=>bM (a>172800)) (uB (zy (iw (c>0)) (j6 a c 1 λb=>j6 a (cF (c-1)) 2 λa=>bM (b<a))) (eU 10) (d (a,b,aq c,())))))
def HH(L:aY)(p0 p1:PV):oP:=ij 5 p0 p1 λa b=>WO (↑a.length:Int) 2 32 (eU 5) (L.run Bs (a,b,0,()))
def wN:=j4 HH
def M5(L:aY)(p0 p1 p2 p3 p4:PV):oP:=iI 5 p0 λa=>iV p1 p2 λb c=>iV p3 p4 λd e=>fJ a b λf=>gd (f 0) λg=>mO qk [sq g] λg=>fh (!g) 12 (UC b a 5 (gd (f 0) λg=>Dj zC [cy (acj b a),sq g] λa=>fh (iw (a>=0)) 6 (cQ f λa=>fi (a<0) (cM f 1 λa=>bM (a>=d)) λa=>gX a (cM f 2 λa=>bM (a<0)) (uB (cM f 2 λa=>bM (a>=e)) (eU 9) (Cl 5 f 4 λa=>Dj wN [cy a,c] λa=>cY a)))))
def Cm:=mw3 M5
def Bt:cA (lP×xD Unit):=λ(a,b,c,d,e,_)=>λf=>ep e a (Dj Cm [cy a,e,b,c,d] (F6 e (f (a,b,c,d,aq e,())))) uD
def HI(L:aY)(p0 p1 p2 p3:PV):oP:=ij 5 p0 p1 λa b=>iV p2 p3 λc d=>xF a 256 (L.run Bt (a,b,c,d,0,()))
def wO:=mw4 HI
def HJ(L:aY)(p0:PV):oP:=Oz p0 λ_ a b c=>if c=0 then Z else cY (aq (OC (cF (b-a)) c))
def wP:=nK HJ
def HK(L:aY)(p0 p1 p2:PV):oP:=j5 p0 λa=>iV p1 p2 λb c=>WO b 0 172800 (PV.b8 [bK,eV]) (cP (a>=c) (uV (iw (IntKind.u64.wrap (IntKind.u64.wrap a-IntKind.u64.wrap c)>172800)) (PV.b8 [bK,eV]) (aj3 b (cF (a-c)))) (uV (iw (IntKind.u64.wrap (IntKind.u64.wrap c-IntKind.u64.wrap a)>172800)) (PV.b8 [bK,eV]) (aj3 b (cF (a-c)))))
def qm:=Gl HK
def iT(L:aY):cA (axc):=λ(a,b,c,d,e,f,g,h,i,_)=>λj=>ep c h (fJ h c λk=>cQ k λl=>Nr qm [l,a,b] λl m=>cM k 2 λn=>Nr qm [n,a,b] λn o=>gX (!m) (cw (!o)) (gJ uI 10 (uZ k λm=>FH k 3 λo=>FH k 4 λk=>OD i [m,l,n,PV.bool o,PV.bool k] (j (a,b,aq c,d,e,f,g,h,i++eS [m,l,n,sA o,sA k],()))))) (xE (cy i))
def B6(L:aY)(p0 p1:PV):oP:=ago p0 λa b c d e=>j5 p1 λf=>lL (cG e==0) uI 16 (fJ e 0 (Ei λg=>L.run (iT L) (f,g,0,a,b,c,d,e,[],())))
def iE:=j4 B6
def yM(L:aY):cA (axd):=λ(a,b,c,d,e,f,_)=>λg=>cP (a<d) (mE f a (g (cF (a+e),b,c,d,e,f++gH a,()))) (yV f)
def zn(L:aY)(p0:PV):oP:=Oz p0 λa b c d=>mO mP (eS [a,b,c,d]) λe=>uV (!e) (iW 1 []) (L.run (yM L) (b,a,b,c,d,[],()))
def iU:=nK zn
def Ki(L:aY)(p0 p1:PV):oP:=ago p0 λa b c d e=>Oz p1 λf g h i=>iZ iU (eS [f,g,h,i]) 1 λf=>gG f 0 λ_ g=>SL iE [amd a b c d e,g] λ_ g=>gG f (FI f) λ_ f=>SL iE [amd a b c d e,f] λ_ a=>yK (g !=10) (cw (a !=10))
def zD:=j4 Ki
def Bu(yH:lP×lP×Int×Unit->oP):cA (axe):=λ(a,b,c,d,e,f,g)=>λh=>cP (f<=c) (gG a f λ_ i=>j5 g.1 λj=>bE (i !=j) (h (a,b,c,d,e,aq f,g)) (fJ a f λi=>Dj wP [vL i] λi=>gN (iw (f<c)) (j6 a f 1 λa=>j5 g.2.2.1 λb=>bM (a<b)) λj=>gN j (j5 g.2.1 λb=>j6 a f 2 λa=>bM (b<a)) (ig (h (a,b,c,cF (d+i),Y,aq f,g)) (h (a,b,c,cF (d+i),e,aq f,g))))) (lL (iw (d>256)) c 17 (lL e c 8 (yH (a,b,aq c,()))))
def Bv(L:aY):cA (lP×lP×Int×Unit):=λ(a,b,c,_)=>λd=>ep c a (gG a c λe f=>fi (f<0) (cM e 0 λa=>H9 a b) (gJ c 9 (mO mP [vL e] λf=>gX (!f) (cM e 0 λa=>fJ b a λa=>lF zD [LP a,vL e]) (gJ c 10 (L.run (Bu d) (a,b,c,0,J,0,e 0,e 1,e 2,e 3,())))))) uD
def HL(L:aY)(p0 p1:PV):oP:=uF 4 p0 5 p1 λa b=>xF a 64 (L.run (Bv L) (a,b,0,()))
def wQ:=j4 HL
abbrev aj5:bD (λ(a:Int)(b:lP)(c:Int)=>(aj4 a b (cY eV) λd _ e=>uV (e==c) iX (d (b,c,aq a,())):(lP×Int×Int×Unit->oP)->oP)):=⟨⟩
def FK:cA (lP×Int×Int×Unit):=λ(a,b,c,_)=>aj5 c a b
def M6(L:aY)(p0 p1:PV):oP:=ij 1 p0 p1 λa b=>L.run FK (a,b,0,())
def xG:=j4 M6
def Dp:cA (lP×Int×Int×Unit):=λ(a,b,c,_)=>aj4 c a (L8 [bK,eV]) λd _ e=>bE (e==b) (fJ a c λa=>cQ a λa=>L8 [a,iX]) (d (a,b,aq c,()))
def Kj(L:aY)(p0 p1:PV):oP:=ij 2 p0 p1 λa b=>L.run Dp (a,b,0,())
def uO:=j4 Kj
def uP(L:aY):cA (lP×Int×Int×lP×Unit):=λ(a,b,c,d,_)=>λe=>cP (c<b) (zz (cF ((↑d.length:Int)-1)) d d λf=>uZ f λf=>Nr uO [iW 2 a,f] λf g=>I3 (!g) (od xG [iW 1 d,f]) (iW 1 d) (mE d f (e (a,b,aq c,d++gH f,())))) (yV d)
def HM(L:aY)(p0 p1:PV):oP:=ij 2 p0 p1 λa b=>L.run (uP L) (a,cG a,0,[b],())
def wR:=j4 HM
def Rl(L:aY)(p0 p1:PV):oP:=iV p0 p1 λa b=>OA a (a<b)
def oj:=j4 Rl
def uQ:cA (lP×Int×Int×Unit):=λ(a,b,c,_)=>aj5 c a b
def A5(L:aY)(p0 p1:PV):oP:=ij 4 p0 p1 λa b=>L.run uQ (a,b,0,())
def fY:=j4 A5
def FL(L:aY):cA (lP×Int×Int×PV×PV×Unit):=λ(a,b,c,d,e)=>λf=>qi c b a (UC b a 2 (j5 e.1 λc=>mcJ wR [iW 2 (acj b a),c] λa=>ij 1 a d λa b=>mO xG [iW 1 a,b] λa=>fh a 19 (cY bK))) λ_ g=>j5 d λh=>I3 (g==h) (j6 a c 1 λa=>Ju e.1 a) (eU 6) (f (a,b,aq c,d,e))
def M7(L:aY)(p0 p1 p2 p3:PV):oP:=ij 2 p0 p1 λa b=>uF 5 p2 4 p3 λc d=>gG a b λe f=>mO oj (yU f c) λf=>gX (!f) (cM e 1 λa=>lF oj (yU a c)) (uB (cM e 0 (RU e 1)) (eU 9) (uZ e λf=>mO fY [cB d,f] (uB (cM e 1 λa=>od fY [cB d,a]) (eU 17) (uZ e λd=>fJ c d λd=>cQ e λf=>fJ c f λc=>iY d 2 c 2 λf g=>fh (f !=g) 15 (Cl 5 d 4 λf=>fi (cF ((↑f.length:Int)-1)<0) (Cl 5 c 4 λa=>cw (cG a==0)) (uB (Cl 5 d 4 λa=>j6 a (FI f) 0 λa=>Cl 5 c 4 λb=>j6 b 0 0 λb=>cw (a !=b)) (eU 13) (Cl 5 c 4 λc=>fJ c 0 (Ei λc=>Cl 5 d 4 λd=>fJ d (FI f) λd=>cQ d λd=>fh (iw (c<d)) 10 (L.run (FL L) (a,b,0,e 0,e 1,()))))))))))
def Cn:=mw4 M7
def Bw:cA (axf):=λ(a,b,c,d,_)=>λe=>ep d a (Dj Cn [iW 2 a,d,cy b,cB c] (F6 d (e (a,b,c,aq d,())))) uD
def HN(L:aY)(p0 p1 p2:PV):oP:=iI 2 p0 λa=>uF 5 p1 4 p2 λb c=>xF a 128 (L.run Bw (a,b,c,0,()))
def wS:=Gl HN
def uT:cA (TY1):=λ(a,b,c,d,e,_)=>λf=>ep (cF (e+1)) b (gG b e λ_ g=>gN (g==c) (fJ b e λa=>FH a 3 λa=>cw a) (ig (fJ b e (Ei λb=>fJ a d λa=>cQ a λa=>uV (iw (b<a)) (PV.b8 [bK,bK,eV]) (L8 [d,e,iX]))) (f (a,b,c,d,aq e,())))) (L8 [bK,bK,eV])
def Bx(L:aY):cA (lP×lP×Int×Int×Unit):=λ(a,b,c,d,_)=>λe=>ep d a (gG a d λ_ f=>gX (f !=c) (fJ a d λa=>FH a 4 λa=>cw (!a)) (ig (e (a,b,c,aq d,())) (L.run uT (a,b,c,d,0,())))) (L8 [bK,bK,eV])
def HO(L:aY)(p0 p1 p2:PV):oP:=iI 5 p0 λa=>ij 5 p1 p2 λb c=>L.run (Bx L) (a,b,c,1,())
def qn:=Gl HO
def rR:cA (axg):=λ(a,b,c,d,e,f)=>λg=>gf c b a (cY bK) λh=>uG (amb [h 0,h 1,h 2]=Y/\amb [d,e,f.1]) (fh (cz [h 0,h 1,h 2] [d,e,f.1]) 6 (g (a,b,aq c,d,e,f)))
def yC(L:aY)(p0 p1 p2 p3 p4:PV):oP:=ij 3 p0 p1 λa b=>iI 5 p2 λc=>ij 4 p3 p4 λd e=>gG a b λf g=>F7 oj (yU g c) (cM f 1 λa=>lF oj (yU a c)) (cM f 0 (RU f 1)) (uB (cM f 2 λa=>lF oj [a,e]) (eU 9) (uZ f λe=>mO fY [cB d,e] (uB (cM f 1 λa=>od fY [cB d,a]) (eU 17) (aef f c 4 1 2 λc d e=>ama qn [cy c,cy d,e] λ_ _ c=>fh (!c) 19 (L.run rR (a,b,0,f 0,f 1,f 2,()))))))
def nF:=mw3 yC
def kx:cA (ara):=λ(a,b,c,d,e,_)=>λf=>ep e a (Dj nF [eT a,e,cy b,cB c,d] (F6 e (f (a,b,c,d,aq e,())))) uD
def mW(L:aY)(p0 p1 p2 p3:PV):oP:=uF 3 p0 5 p1 λa b=>ij 4 p2 p3 λc d=>xF a 128 (L.run kx (a,b,c,d,0,()))
def gQ:=mw4 mW
def Fl(L:aY)(p0 p1 p2:PV):oP:=aee p0 p1 p2
def dU:=Gl Fl
def HP(L:aY)(p0:PV):oP:=mcA 6 p0 λ_=>gd (p0 0) λ_=>cQ p0 λa=>iY p0 2 p0 3 λb c=>iY p0 4 p0 5 λd e=>mO dU (LV a) λa=>gN a (od dU (H7 b 8)) λa=>gN a (od dU (H7 c 16)) λa=>gN a (od dU (vh d 86400)) λa=>yK a (od dU (H7 e 255))
def wU:=nK HP
def uU(ZJ:lP×Int×Unit->oP):cA (lP×Int×Int×Unit):=λ(a,b,c,_)=>aj0 c b a λc=>Ek wU (awX c) b 2 (ZJ (a,aq b,()))
def Bz(L:aY):cA (lP×Int×Unit):=agr jY λa b c=>L.run (uU c) (a,b,0,())
def HQ(L:aY)(p0:PV):oP:=ajS p0 λa b c d=>F7 dU (LV b) (lF dU (vh c 86400)) (lF dU (LV d)) (gJ (eU (-1)) 2 (xF a 16 (L.run (Bz L) (a,0,()))))
def wV:=nK HQ
def Kk(L:aY)(p0 p1:PV):oP:=so p0 λa b c d e f g h i j k l m=>j5 p1 λn=>bE (n==0) (BL wK [cB a]) (bE (n==1) (BL wM [eT b]) (bE (n==2) (BL wL [iW 10 c]) (bE (n==3) (BL gP (yU (eT d) c)) (bE (n==4) (BL wO [cy e,cG a,cG b,cG c]) (bE (n==5) (BL wQ [cB f,cy e]) (bE (n==6) (BL wS [iW 2 g,cy e,cB f]) (bE (n==7) (BL gQ [eT h,cy e,cB f,cG a]) (bE (n==8) (BL qj (yU (cB i) a)) (BL wV (eS [iW 6 j,k,l,m]))))))))))
def zF:=j4 Kk
def Ib:cA (arb):=λ(a,b,c,d,e,f,g,h,i,j,k,l,m)=>λn=>cP (a<10) (Di zF [uY b c d e f g h i j k l m.1 m.2.1,a] λo p=>Dk p [a,o,p] (n (aq a,b,c,d,e,f,g,h,i,j,k,l,m))) (L8 [bK,bK,bK])
def HR(L:aY)(p0:PV):oP:=so p0 λa b c d e f g h i j k l m=>L.run Ib (0,a,b,c,d,e,f,g,h,i,j,k,l,m,())
def mN:=nK HR
def Dh:cA (lP×fI Unit):=λ(a,b,c,d,_)=>λe=>ep d a (gG a d λ_ f=>gN (f==b) (j6 a d 1 λa=>cw (a==c)) λf=>uV f d (e (a,b,c,aq d,()))) (cY (eU (-1)))
def Km(L:aY)(p0 p1 p2:PV):oP:=iI 8 p0 λa=>iV p1 p2 λb c=>L.run Dh (a,b,c,0,())
def oX:=Gl Km
end
end Go.Ab
set_option maxHeartbeats 4000000
namespace Go.Ab
noncomputable section
abbrev avp:=lP×fI (Oy (lP×Unit))
abbrev avq:=lP×Bool×xD (lP×Oy Unit)
abbrev avr:=lP×fI (PV×lP×Unit)
abbrev ZM:=lP×Int×Int×al8 (Int×Oy (Int×lP×lP×Unit))
def mM(L:aY):cA (auR):=λ(a,b,c,d,e,f,g,h,i,j,k,l,m,n,o,p,q,r,s,t)=>λu=>ep e m (gG m e λv w=>j5 t.1 λx=>bE (w !=x) (u (a,b,c,d,aq e,f,g,h,i,j,k,l,m,n,o,p,q,r,s,t)) (cQ v λw=>j5 t.2.1 λx=>Dj oX [fR a,w,x] λw=>cP (w<0) (u (a,b,c,d,aq e,f,g,h,i,j,k,l,m,n,o,p,q,r,s,t)) (iI 5 t.2.2.2.2.2.2.2.1 λx=>fJ a w (H8 7 λy=>cM v 2 λz=>ama qn [cy x,cy y,z] λx y _=>gN d (cM v 1 λa=>cw (c==a)) λv=>gN v ((aJ 5 t.2.2.2.2.2.2.2.1).bind λa=>cw (x==FI a)) λv=>gN v (cw (y==0)) (ig (u (a,b,c,d,aq e,f,g,h,i,j,k,l,m,n,o,p,q,r,s,t)) (kz s [amc b x w y J] 40 (u (a,b,c,d,aq e,f,g,h,i,j,k,l,m,n,o,p,q,r,s++[amc b x w y J],t)))))))) (cY (cy s))
def Kn(L:aY)(p0 p1 p2:PV):oP:=so p0 λa b c d e f g h i j k l m=>ij 8 p1 p2 λn o=>gG n o λp q=>Nr uO [iW 2 g,q] λq r=>bE r (cQ p λs=>Dj oX [fR n,q,s] λs=>cP (s>=0) (Cl 5 p 7 λt=>L.run (mM L) (n,o,q,r,0,a,b,c,d,e,f,g,h,i,j,k,l,m,eS [o,FI t,s,bK,iX],p 0,p 1,p 2,p 3,p 4,p 5,p 6,p 7,())) (L.run (mM L) (n,o,q,r,0,a,b,c,d,e,f,g,h,i,j,k,l,m,[],p 0,p 1,p 2,p 3,p 4,p 5,p 6,p 7,()))) (L.run (mM L) (n,o,q,r,0,a,b,c,d,e,f,g,h,i,j,k,l,m,[],p 0,p 1,p 2,p 3,p 4,p 5,p 6,p 7,()))
def zw:=Gl Kn
def C8(L:aY)(p0:PV):oP:=j5 p0 λa=>mO eX [a] λb=>uV (!b) (PV.b8 [bK,eV]) (L8 [(cF (a+5)).tmod 7,iX])
def qM:=nK C8
def yG(L:aY):cA (TY1):=λ(a,b,c,d,e,_)=>λf=>ep e b (gG b e λ_ g=>gN (g==c) (j6 b e 1 λa=>cw (a==d)) (ig (fJ b e λa=>FH a 2 λa=>fh a 2 (cY (eU 3))) (f (a,b,c,d,aq e,())))) (fJ a c λb=>cM b 8 λb=>I3 (iw (d<b)) (j6 a c 9 λa=>bM (d>a)) (eU 5) (Nr qM [d] λb _=>fJ a c λa=>uG (aU b 7/\0<1) ((List.drop (fj b*1) [a 1,a 2,a 3,a 4,a 5,a 6,a 7,a 8,a 9]).head?.bind λa=>mcb a λa=>fh a 1 (cY (eU 4)))))
def Fm(L:aY)(p0 p1 p2 p3:PV):oP:=uF 10 p0 3 p1 λa b=>iV p2 p3 λc d=>fi (c<0) (H9 c a) (uB (lF eX [d]) bK (L.run (yG L) (a,b,c,d,0,())))
def uq:=mw4 Fm
def Fo(L:aY)(p0 p1 p2 p3:PV):oP:=uF 10 p0 3 p1 λa b=>iV p2 p3 λc d=>Dj uq [iW 10 a,eT b,c,d] λa=>gX (a==1) (cw (a==2)) λa=>u7 a
def ur:=mw4 Fo
def mf(LG:auL->oP):cA (axi):=λ(a,b,c,d,e,f,g,_)=>λh=>gN (iw (f>0)) (ajY f g λa=>cM a 0 λa=>Ef g f λb=>cM b 0 λb=>bM (a>b)) (ig (Ef g f (au2 λ_ i=>zz (cF (f-1)) g g λj=>uZ j λj=>Ef g f λ_=>zz (cF (f-1)) (g.set f.toNat (PV.int .i64 j)) (uH g f (eU j)) λ_=>h (a,b,c,d,e,cF (f-1),uH (uH g f (eU j)) (cF (f-1)) (eU i),()))) (LG (a,b,c,d,aq e,g,())))
def mh(L:aY)(yH:lP×Int×Int×lP×Unit->oP):cA (auL):=λ(a,b,c,d,e,f,_)=>λg=>ep e d (gG d e λ_ h=>mE f h (L.run (mf g) (a,b,c,d,e,FI (f++gH h),f++gH h,()))) (yH (a,b,aq c,f,()))
def rM(L:aY):cA (lP×Int×Int×lP×Unit):=λ(a,b,c,d,_)=>λe=>ep c a (gG a c λ_ f=>bE (f !=b) (e (a,b,aq c,d,())) (fJ a c λf=>iZ iU [vL f] 1 λf=>L.run (mh L e) (a,b,c,f,0,d,()))) (yV d)
def yD(L:aY)(p0 p1:PV):oP:=ij 4 p0 p1 λa b=>L.run (rM L) (a,b,0,[],())
def nA:=j4 yD
def uy:cA (lP×Int×Int×Unit):=λ(a,b,c,_)=>aj5 c a b
def A6(L:aY)(p0 p1:PV):oP:=ij 4 p0 p1 λa b=>L.run uy (a,b,0,())
def oU:=j4 A6
def FA(L:aY):cA (auS):=λ(a,b,c,d,e,f,g,h,i,j,k,l,m,n,o,p,q,r,_)=>λs=>LW c b (SM k l m n o p q r) λt=>iY t 1 t 2 λu v=>OD r [t 0,cF (u+cF (a*86400)),cF (v+cF (a*86400)),t 3,t 4] (s (a,b,aq c,d,e,f,g,h,i,j,k,l,m,n,o,p,q,r++eS [t 0,cF (u+cF (a*86400)),cF (v+cF (a*86400)),t 3,t 4],()))
def M8(L:aY)(p0 p1 p2 p3 p4:PV):oP:=so p0 λ_ _ _ _ a _ _ _ _ _ _ _ _=>j5 p1 λb=>iV p2 p3 λc d=>iI 5 p4 λe=>fJ a b λa=>gd (a 0) λf=>cQ a λg=>FH a 3 λa=>L.run (FA L) (c,e,0,0,0,0,[],0,J,J,b,c,d,f,g,a,J,[],())
def xz:=mw3 M8
def zr(L:aY)(ad8:ZE->oP):cA (auT):=λ(a,b,c,d,e,f,g,h,i,j,k,l,m,n,o,p,q,r)=>λs=>ep d c (fJ i b λt=>gG c d λ_ u=>SL iE [LP t,u] λt _=>uE xz [uY e f g h i j k l m n o p q,b,a,d,cy t] 8 λt=>kz r.1 [WL t] 80 (s (a,b,c,aq d,e,f,g,h,i,j,k,l,m,n,o,p,q,r.1++[WL t],()))) (ad8 (a,aq b,e,f,g,h,i,j,k,l,m,n,o,p,q,r))
def FC(L:aY):cA (ZE):=λ(a,b,c,d,e,f,g,h,i,j,k,l,m,n,o,p)=>λq=>LW b g (fR p.1) (Ei λr=>mO ur [iW 10 e,eT f,r,a] (Ej (q (a,aq b,c,d,e,f,g,h,i,j,k,l,m,n,o,p)) (mO oU [cB h,b] (Ej (fJ g b (H8 4 λr=>uE xz [uY c d e f g h i j k l m n o,b,a,bK,cy r] 8 λr=>kz p.1 [WL r] 80 (q (a,aq b,c,d,e,f,g,h,i,j,k,l,m,n,o,p.1++[WL r],())))) (iZ nA [cB h,b] 1 λr=>L.run (zr L q) (a,b,r,0,c,d,e,f,g,h,i,j,k,l,m,n,o,p))))))
def M9(L:aY)(p0 p1:PV):oP:=so p0 λa b c d e f g h i j k l m=>j5 p1 λn=>L.run (FC L) (n,0,a,b,c,d,e,f,g,h,i,j,k,l,m,[],())
def xA:=j4 M9
def rN:cA (lP×lP×Int×Unit):=λ(a,b,c,_)=>au8 c a b
def yE(L:aY)(p0 p1:PV):oP:=aeh 5 p0 p1 L rN
def nB:=j4 yE
def C9(L:aY)(p0 p1:PV):oP:=acd p0 (anz p1 nB)
def qO:=j4 C9
def A7(L:aY)(p0:PV):oP:=j5 p0 λa=>OA a (a<=36524)
def lE:=nK A7
def Bf:cA (auU):=λ(a,b,c,d,e,f,g,h,i)=>λj=>LW b a eV λk=>mO qO [WL k,SM c d e f g h i.1 i.2.1] λk=>uV k iX (j (a,aq b,c,d,e,f,g,h,i))
def HS(L:aY)(p0 p1:PV):oP:=so p0 λa b c d e f g h i j k l m=>acd p1 λn o p q r s t u=>mO lE [o] λv=>pq (!v) (iZ xA [uY a b c d e f g h i j k l m,o] 8 λa=>L.run Bf (a,0,n,o,p,q,r,s,t,u,()))
def wH:=j4 HS
def Bi(avs:ann->oP):cA (auV):=λ(a,b,c,d)=>λe=>qi c b a (avs (a,aq b,d)) λ_ f=>gG a b λ_ g=>gN (f==g) (aej a c 1 b) λf=>gN f (aej a c 2 b) (gJ uI 6 (e (a,b,aq c,d)))
def uA(L:aY):cA (auW):=λ(a,b,c,d,e,f,g,h,i,j,k,l,m,n,o,p,_)=>λq=>ep b a (RZ zw [uY c d e f g h i j k l m n o,fR a,b] 5 p 40 (λa=>a) λr=>q (a,aq b,c,d,e,f,g,h,i,j,k,l,m,n,o,p++r,())) (OH p uI (xE (cy p)))
def Bh(L:aY):cA (ann):=λ(a,b,c,d,e,f,g,h,i,j,k,l,m,n,o)=>λp=>ep b a (fJ a b λq=>mO wH [uY c d e f g h i j k l m n o.1,WL q] λq=>lL (!q) uI 9 (L.run (Bi p) (a,b,0,c,d,e,f,g,h,i,j,k,l,m,n,o))) (L.run (uA L) (a,0,c,d,e,f,g,h,i,j,k,l,m,n,o.1,[],()))
def HT(L:aY)(p0 p1:PV):oP:=so p0 λa b c d e f g h i j k l m=>iI 8 p1 λn=>acb mN [uY a b c d e f g h i j k l m] λ_ _ o=>Dk o [uI,o] (OH n uI (L.run (Bh L) (n,0,a,b,c,d,e,f,g,h,i,j,k,l,m,())))
def wI:=j4 HT
def qN(L:aY):cA (ZE):=λ(a,b,c,d,e,f,g,h,i,j,k,l,m,n,o,p,_)=>λq=>cP (b<=a) (RZ xA [uY c d e f g h i j k l m n o,b] 8 p 80 (λa=>a) λr=>q (a,aq b,c,d,e,f,g,h,i,j,k,l,m,n,o,p++r,())) (OH p (fR []) (xE (fR p)))
def Fq(L:aY)(p0 p1 p2:PV):oP:=so p0 λa b c d e f g h i j k l m=>iV p1 p2 λn o=>acb mN [uY a b c d e f g h i j k l m] (anA lE n o (L.run (qN L) (o,n,a,b,c,d,e,f,g,h,i,j,k,l,m,[],())))
def uz:=Gl Fq
def GZ(L:aY)(p0 p1 p2:PV):oP:=so p0 λa b c d e f g h i j k l m=>iV p1 p2 λn o=>aq7 uz [uY a b c d e f g h i j k l m,n,o] (UD λn=>SL wI [uY a b c d e f g h i j k l m,fR n] (UD λc=>auB vY (yU (cB i) a) λd _=>xE (Bm a b n c d j k l m)))
def kg:=Gl GZ
def IB(L:aY)(p0 p1 p2 p3 p4:PV):oP:=so p0 λa b c d e f g h i j k l m=>iV p1 p2 λn o=>iV p3 p4 λp q=>Kw kg [uY a b c d e f g h i j k l m,n,o] 9 λa b=>Dk b [cJ [vM,vM,vM,vM,vM,vM,bK,bK,bK,bK,vM,vM,bK],b] (Kw GU [p,q] 3 λb c=>Dk c [cJ [vM,vM,vM,vM,vM,vM,bK,bK,bK,bK,vM,vM,bK],c] (xE (cJ (amk a b 0 1 2 bK))))
def sg:=mw3 IB
def Kx(L:aY):oP:=u7 Y
def cH:List PV->Option PV|[]=>Kx cD|_=>Z
def jf(L:aY)(BX:lP×Int×Int×lP×Unit->oP):cA (avp):=λ(a,b,c,d,e,f,g,h,i,j,k,l,m,n,o,p,q,r)=>λs=>gN (iw (b>0)) (fJ a (cF (b-1)) λa=>od s9 [cJ [e,f,g,h,i,j,k,l,m,n,o,p,q],Bj a]) (ig (s (a,cF (b-1),c,d,e,f,g,h,i,j,k,l,m,n,o,p,q,r)) (UC b a 13 (kz ([]:List PV) (List.drop (Int.toNat 0) (List.take b.toNat a)) 128 (kz (([]:List PV)++List.drop (Int.toNat 0) (List.take b.toNat a)) [PV.agg [e,f,g,h,i,j,k,l,m,n,o,p,q]] 128 (ZG 0 b (↑a.length:Int) a (13=13/\13≠0) (kz (([]:List PV)++List.drop (Int.toNat 0) (List.take b.toNat a)++[PV.agg [e,f,g,h,i,j,k,l,m,n,o,p,q]]) (List.drop b.toNat (List.take (↑a.length:Int).toNat a)) 128 (BX (OG (acj b a)++eS [e,f,g,h,i,j,k,l,m,n,o,p,q]++List.drop (fj b) (List.take (fj (cG a)) a),c,aq d,r.1,()))))))))
def jg(L:aY)(BX:lP×Int×Int×lP×Unit->oP):cA (avq):=λ(a,b,c,d,e,f,g,h,i,j,k,l,m,n,o,p,q,r,s,t)=>λu=>cP (f<e) (Ef g f λv=>gX b (cM v 0 λa=>j5 h λb=>zy (iw (a<b)) (od gy [Bj v,cJ [h,i,j,k,l,m,n,o,p,q,r,s,t.1]])) λb=>u (a,b,c,d,e,aq f,g,h,i,j,k,l,m,n,o,p,q,r,s,t)) (bE (!b) (L.run (jf L BX) (a,cG a,c,d,h,i,j,k,l,m,n,o,p,q,r,s,t.1,g,())) (BX (a,c,aq d,g,())))
def jh(L:aY):cA (lP×Int×Int×lP×Unit):=λ(a,b,c,d,_)=>λe=>cP (c<b) (Ef d c λf=>L.run (jg L e) (a,J,b,c,cG d,0,d,f 0,f 1,f 2,f 3,f 4,f 5,f 6,f 7,f 8,f 9,f 10,f 11,f 12,())) (cY (iW 13 a))
abbrev UE:bD (λ(a:PV)=>ky [a 0,a 1,a 2]):=⟨⟩
abbrev anB:bD (λ(a:PV)(b:lP)=>([a 0,a 1,a 2,a 3,a 4,a 5,a 6,a 7,a 8,a 9,a 10,a 11,cy (OG b)]:lP)):=⟨⟩
def mS(L:aY):cA (avr):=λ(a,b,c,d,e,f,_)=>λg=>gf c b a (L.run (jh L) ([],cG f,0,f,())) λh=>cM h 2 λi=>gN (iw (i<=d)) (cM h 3 λa=>bM (a>d)) λi=>gN i (cM h 0 λa=>lF dP [UE e,a,d]) (ig (Cl 5 h 12 λi=>RY i (kz f [PV.agg [h 0,h 1,h 2,h 3,h 4,h 5,h 6,h 7,h 8,h 9,h 10,h 11,PV.rs 5 (([]:List PV)++i)]] 128 (g (a,b,aq c,d,H5 e,f++eS (anB h i),())))) (g (a,b,aq c,d,H5 e,f,())))
def ry(L:aY)(p0 p1:PV):oP:=aed p0 (j5 p1 λ_=>cY (iW 13 [])) λa b c=>j5 p1 λd=>L.run (mS L) (c,cG c,0,d,cJ [cB a,b,iW 13 c],[],())
def gz:=j4 ry
def tn(L:aY)(p0:PV):oP:=agp p0 (cY (cJ Ns)) (λ_ a b c d e f g h i j=>iZ gz [PV.nL,j] 13 λj=>arl ke a b c d e f g h i j) λa _ b c d e f g h i j k=>iZ gz [UE a,k] 13 λa=>arl ke b c d e f g h i j a
def fq:=nK tn
def tt(L:aY)(p0:PV):oP:=agp p0 (yV []) (λa b c d e f g h i j k=>uE fq [ky [PV.nL,a,cB b,eT c,fR d,cy e,cB f,iW 6 g,h,i,j,k]] 9 λa=>iZ jN [Bm b c d e f g h i j,WM a] 1 λa=>yV a) λa b c d e f g h i j k l=>uE fq [ky [UE a,b,cB c,eT d,fR e,cy f,cB g,iW 6 h,i,j,k,l]] 9 λa=>iZ jN [Bm c d e f g h i j k,WM a] 1 λa=>yV a
def kD:=nK tt
def kE(L:aY):cA (PV×Int×Int×lP×Unit):=λ(a,b,c,d,_)=>λe=>cP (c<b) (mZ 3 (match a.cells[0]? with|some x=>x|none=>.bad) (cM a 11 λf=>mO dP [PV.nL,c,f] (RW d (PV.int .i64 c) 8 (e (aeb a,b,aq c,d++gH c,())) (e (aeb a,b,aq c,d,())))) λf=>cM a 11 λg=>mO dP [UE f,c,g] (RW d (PV.int .i64 c) 8 (e (aeb a,b,aq c,d++gH c,())) (e (aeb a,b,aq c,d,())))) (yV d)
def vw(L:aY)(p0:PV):oP:=agp p0 (yV []) (λa b c d e f g h i j k=>L.run (kE L) (cJ [PV.nL,a,cB b,eT c,fR d,cy e,cB f,iW 6 g,h,i,j,k],a,0,[],())) λa b c d e f g h i j k l=>L.run (kE L) (cJ [UE a,b,cB c,eT d,fR e,cy f,cB g,iW 6 h,i,j,k,l],b,0,[],())
def l7:=nK vw
def pD(L:aY)(p0:PV):oP:=agp p0 (cY (cJ Ns)) (λ_ a b c d e f g h i _=>uE jA [Bm a b c d e f g h i] 9 λa=>cY (WM a)) λ_ _ a b c d e f g h i _=>uE jA [Bm a b c d e f g h i] 9 λa=>cY (WM a)
def jj:=nK pD
abbrev arn:bD (λ(a b:PV)=>ace a λa c d e f g h i j k l m n=>uE qA [WN a c d e f g h i j k l m n] 9 λo=>Dj ye [b] λp=>gN (p==n) (mcJ jj [b] λb=>mcA 9 b λ_=>od pW [WM b,Bm a c d e f g h i j]) λp=>gN p (mcJ fq [b] λa=>mcA 9 a λ_=>od pW [WM a,WM o]) λp=>gN p (mcJ kD [b] λb=>(aJ 1 b).bind λb=>mcJ qv [Bm a c d e f g h i j,WM o] λa=>(aJ 1 a).bind λa=>od lh [iW 1 b,iW 1 a]) λo=>yK o (mcJ l7 [b] λb=>(aJ 1 b).bind λb=>mcJ tu [WN a c d e f g h i j k l m n] λa=>(aJ 1 a).bind λa=>od lh [iW 1 b,iW 1 a])):=⟨⟩
def JW(L:aY)(p0 p1:PV):oP:=agp p0 (arn p1 PV.nL) (λa b c d e f g h i j k=>arn p1 (ky [PV.nL,a,cB b,eT c,fR d,cy e,cB f,iW 6 g,h,i,j,k])) λa b c d e f g h i j k l=>arn p1 (ky [UE a,b,cB c,eT d,fR e,cy f,cB g,iW 6 h,i,j,k,l])
def jO:=j4 JW
abbrev aro:bD (λ(a b:Int)(c:lP)(d:Int)(e:lP)(f:Int)(g h i j k l m n o:PV)(p:Int)(q r s t u v w x y z A B C10:PV)(D:ZM->oP)(E:lP)(F:Int)=>uV (a !=b) (sA J) (mO jO [ky [ky [cB c,d,iW 13 e],f,g,h,i,j,k,l,m,n,o,p],cJ [q,r,s,t,u,v,w,x,y,z,A,B,C10]] λa=>uV (!a) (sA J) (D (E,aq F,f,g,h,i,j,k,l,m,n,o,p,q,r,s,t,u,v,w,x,y,z,A,B,C10,d,e,c,())))):=⟨⟩
abbrev aml:bD (λ(a:lP)(b:Int)(c d:PV)(e:Int)=>(kA (kA a b (OE [c 1,c 2,c 3])) b (d 0::eU e::over [] [d 2,d 3]):lP)):=⟨⟩
def l8(L:aY)(FU:ZM->oP):cA (lP×Int×Int×lP×Int×Int×Oy (Int×lP×Int×lP×Int×al8 (Int×Oy (Oy (lP×Unit))))):=λ(a,b,c,d,e,f,g,h,i,j,k,l,m,n,o,p,q,r,s,t,u,v,w,x,y,z,A,B,C10,D,E,F,G,H,I10,K,L,M,N,P,Q,R,S,T,V,W,X,a0,b0,c0,d0,e0,f0,g0,h0,i0,j0,k0,l0,m0,n0,o0)=>λp0=>gf c b a (cP ((↑u.length:Int)>=256) (aro 5 f n0 v w x y z A B C10 D E F G H a0 b0 c0 d0 e0 f0 g0 h0 i0 j0 k0 l0 m0 FU d e) (iI 5 s λa=>RY a (kz u [PV.agg [g,h,i,j,k,l,m,n,o,p,q,r,PV.rs 5 (([]:List PV)++a)]] 128 (j5 g λb=>Ef n0 b λc=>FH c 0 λc=>gX (!c) (n0[fj b]?.bind λa=>cM a 1 λa=>bM (t>a)) (ig (n0[fj b]?.bind λc=>(kA n0 b (OE [c 1,c 2,c 3]))[fj b]?.bind λs=>j5 h λw=>(aml n0 b c s t)[fj b]?.bind λI10=>(kA (aml n0 b c s t) b (I10 0::I10 1::OE [I10 3]))[fj b]?.bind λK=>aro 0 f (kA (kA (aml n0 b c s t) b (I10 0::I10 1::OE [I10 3])) b (K 0::K 1::K 2::eU w::over [] [])) v (u++eS [g,h,i,j,k,l,m,n,o,p,q,r,cy (OG a)]) x y z A B C10 D E F G H a0 b0 c0 d0 e0 f0 g0 h0 i0 j0 k0 l0 m0 FU d e) (j5 h λc=>n0[fj b]?.bind λs=>(kA n0 b (s 0::s 1::OE [s 3]))[fj b]?.bind λt=>aro 0 f (kA (kA n0 b (s 0::s 1::OE [s 3])) b (t 0::t 1::t 2::eU c::over [] [])) v (u++eS [g,h,i,j,k,l,m,n,o,p,q,r,cy (OG a)]) x y z A B C10 D E F G H a0 b0 c0 d0 e0 f0 g0 h0 i0 j0 k0 l0 m0 FU d e)))))) λq0=>mO jM [cJ [g,h,i,j,k,l,m,n,o,p,q,r,s],Bj q0] λr0=>gN (!r0) (cM q0 3 λa=>bM (a>t)) (ig (Cl 5 q0 12 λr0=>RY r0 (kz u [PV.agg [q0 0,q0 1,q0 2,q0 3,q0 4,q0 5,q0 6,q0 7,q0 8,q0 9,q0 10,q0 11,PV.rs 5 (([]:List PV)++r0)]] 128 (p0 (a,b,aq c,d,e,f,g,h,i,j,k,l,m,n,o,p,q,r,s,t,u++eS (anB q0 r0),v,w,x,y,z,A,B,C10,D,E,F,G,H,I10,K,L,M,N,P,Q,R,S,T,V,W,X,a0,b0,c0,d0,e0,f0,g0,h0,i0,j0,k0,l0,m0,n0,o0)))) (p0 (a,b,aq c,d,e,f,g,h,i,j,k,l,m,n,o,p,q,r,s,t,u,v,w,x,y,z,A,B,C10,D,E,F,G,H,I10,K,L,M,N,P,Q,R,S,T,V,W,X,a0,b0,c0,d0,e0,f0,g0,h0,i0,j0,k0,l0,m0,n0,o0)))
abbrev axn:bD (λ(a b:Int)(c:lP)(d:Int)(e:lP)(f:Int)(g h i j k l m n o:PV)(p:Int)(q r s t u v w x y z A B C10:PV)(D:ZM->oP)(E:lP)(F:Int)(G:Unit)=>uV (a !=b) (PV.bool J) (mO jO [ky [ky [cB c,d,iW 13 e],f,g,h,i,j,k,l,m,n,o,p],cJ [q,r,s,t,u,v,w,x,y,z,A,B,C10]] λa=>uV (!a) (PV.bool J) (D (E,aq F,f,g,h,i,j,k,l,m,n,o,p,q,r,s,t,u,v,w,x,y,z,A,B,C10,d,e,c,G)))):=⟨⟩
abbrev ack:bD (λ(a b:Int)(c:lP)(d:Int)(e:lP)(f:Int)(g h i j k l m n o:PV)(p:Int)(q:lP)(r:ZM->oP)(s:lP)(t:Int)(u:Unit)=>axn a b c d e f g h i j k l m n o p (ku q 0) (ku q 1) (ku q 2) (ku q 3) (ku q 4) (ku q 5) (ku q 6) (ku q 7) (ku q 8) (ku q 9) (ku q 10) (ku q 11) (ku q 12) r s t u):=⟨⟩
def iQ(L:aY):cA (ZM):=λ(a,b,c,d,e,f,g,h,i,j,k,l,m,n,o,p,q,r,s,t,u,v,w,x,y,z,A,B,C10,D)=>λE=>ep b a (fJ a b λF=>Kw EW [cJ [n,o,p,q,r,s,t,u,v,w,x,y,z],auD F] 13 λF G=>gG a b λH I10=>bE (I10==0) (Dj je [ky [cB C10,A,iW 13 B],cJ [H 1,H 2,H 3,H 4,H 5,H 6,H 7,H 8,H 9,H 10,H 11,H 12,H 13],m] λI10=>bE (I10 !=0) (ack I10 G C10 A B c d e f g h i j k l m F E a b D) (L.run (l8 L E) (B,cG B,0,a,b,G,H 1,H 2,H 3,H 4,H 5,H 6,H 7,H 8,H 9,H 10,H 11,H 12,H 13,m,[],A,B,c,d,e,f,g,h,i,j,k,l,m,n,o,p,q,r,s,t,u,v,w,x,y,z,ku F 0,ku F 1,ku F 2,ku F 3,ku F 4,ku F 5,ku F 6,ku F 7,ku F 8,ku F 9,ku F 10,ku F 11,ku F 12,C10,()))) (bE (I10==1) (cM H 14 λn=>mO eM [ky [cB C10,A,iW 13 B],n] (Ej (ack 36 G C10 A B c d e f g h i j k l m F E a b D) (Eg m 0 3155932800 (ig (ack 10 G C10 A B c d e f g h i j k l m F E a b D) (Ef C10 n λo=>FH o 0 λo=>gX (!o) (C10[fj n]?.bind λa=>cM a 1 λa=>bM (m>a)) (ig (C10[fj n]?.bind λo=>(kA C10 n (OE [o 1,o 2,o 3]))[fj n]?.bind λp=>ack 0 G (aml C10 n o p m) A B c d e f g h i j k l m F E a b ()) (ack 0 G C10 A B c d e f g h i j k l m F E a b D))))))) (cM H 14 λn=>Eg n m 3155932800 (ig (ack 10 G C10 A B c d e f g h i j k l m F E a b D) (ack 0 G C10 A B c d e f g h i j k l n F E a b D))))) (mO cH [] λa=>u7 a)
def qB(L:aY)(p0 p1:PV):oP:=ank p0 λa b c d e f g h i j k l m n o p q=>iI 15 p1 λr=>mO vX [cJ [cB a,eT b,iW 10 c,eT d,cy e,cB f,iW 2 g,eT h,cB i,iW 6 j,k,l,m,n,o,p,q],iW 15 r] (ig (mO cH [] λa=>u7 a) (Kw jz [uY a b c d e f g h i j k l m,n,o] 9 λs t=>bE (t !=0) (Kw sg [uY a b c d e f g h i j k l m,n,o,p,q] 13 λ_ a=>bE (a !=0) (yK (t==a) (od cH [])) (cY eV)) (Eg p 1 8 (ig (Kw sg [uY a b c d e f g h i j k l m,n,o,p,q] 13 λ_ a=>bE (a !=0) (yK (36==a) (od cH [])) (cY eV)) (Eg q 0 86400 (ig (Kw sg [uY a b c d e f g h i j k l m,n,o,p,q] 13 λ_ a=>bE (a !=0) (yK (2==a) (od cH [])) (cY eV)) (LR p 32 4 (Kw sg [uY a b c d e f g h i j k l m,n,o,p,q] 13 λa b=>bE (b !=0) (yK (0==b) (od cH [])) (L.run (iQ L) (r,0,p,ku s 0,ku s 1,ku s 2,ku s 3,ku s 4,ku s 5,ku s 6,ku s 7,ku s 8,0,ku a 0,ku a 1,ku a 2,ku a 3,ku a 4,ku a 5,ku a 6,ku a 7,ku a 8,ku a 9,ku a 10,ku a 11,ku a 12,q,[],LU (fj p) (cJ [eV,bK,eV,bK]),()))))))))))
def tw:=j4 qB
end
end Go.Ab
