import Derived.Test.YtoaknfoobjnjgaaGreatAbSortK
set_option linter.all false
set_option maxHeartbeats 4000000
namespace Go.Ab
noncomputable section
abbrev df(T:Type):=T→(T→Option PV)→Option PV
structure fY(R:Type)(n:Nat)
instance {R:Type}:CoeFun (fY R 0) (fun _=>(List PV→Option PV)→List PV→(Int→Bool→Option R)→Option R):=⟨fun _=>fun f l k=>(f l).bind fun r=>(bN 2 r).bind fun vs=>(Ab.asInt .i64 (vs.getD 0 .bad)).bind fun v0=>(Ab.asBool (vs.getD 1 .bad)).bind fun v1=>k v0 v1⟩
variable{R:Type}
abbrev HM:fY R 0:=⟨⟩
instance {R:Type}:CoeFun (fY R 1) (fun _=>(List PV→Option PV)→List PV→(Int→Int→Option R)→Option R):=⟨fun _=>fun f l k=>(f l).bind fun r=>(bN 2 r).bind fun vs=>(Ab.asInt .i64 (vs.getD 0 .bad)).bind fun v0=>(Ab.asInt .i64 (vs.getD 1 .bad)).bind fun v1=>k v0 v1⟩
abbrev gv:fY R 1:=⟨⟩
instance {R:Type}:CoeFun (fY R 2) (fun _=>(List PV→Option PV)→List PV→(List PV→Int→Option R)→Option R):=⟨fun _=>fun f l k=>(f l).bind fun r=>(bN 2 r).bind fun vs=>(ah 4 (vs.getD 0 .bad)).bind fun v0=>(Ab.asInt .i64 (vs.getD 1 .bad)).bind fun v1=>k v0 v1⟩
abbrev alm:fY R 2:=⟨⟩
instance {R:Type}:CoeFun (fY R 3) (fun _=>(List PV→Option PV)→List PV→(List PV→Int→Option R)→Option R):=⟨fun _=>fun f l k=>(f l).bind fun r=>(bN 2 r).bind fun vs=>(ah 5 (vs.getD 0 .bad)).bind fun v0=>(Ab.asInt .i64 (vs.getD 1 .bad)).bind fun v1=>k v0 v1⟩
abbrev On:fY R 3:=⟨⟩
instance {R:Type}:CoeFun (fY R 4) (fun _=>(List PV→Option PV)→List PV→(List PV→Int→Option R)→Option R):=⟨fun _=>fun f l k=>(f l).bind fun r=>(bN 2 r).bind fun vs=>(ah 8 (vs.getD 0 .bad)).bind fun v0=>(Ab.asInt .i64 (vs.getD 1 .bad)).bind fun v1=>k v0 v1⟩
abbrev ah7:fY R 4:=⟨⟩
instance {R:Type}:CoeFun (fY R 5) (fun _=>(List PV→Option PV)→List PV→(Int→Int→Bool→Option R)→Option R):=⟨fun _=>fun f l k=>(f l).bind fun r=>(bN 3 r).bind fun vs=>(Ab.asInt .i64 (vs.getD 0 .bad)).bind fun v0=>(Ab.asInt .i64 (vs.getD 1 .bad)).bind fun v1=>(Ab.asBool (vs.getD 2 .bad)).bind fun v2=>k v0 v1 v2⟩
abbrev acO:fY R 5:=⟨⟩
instance {R:Type}:CoeFun (fY R 6) (fun _=>(List PV→Option PV)→List PV→(Int→Int→Int→Option R)→Option R):=⟨fun _=>fun f l k=>(f l).bind fun r=>(bN 3 r).bind fun vs=>(Ab.asInt .i64 (vs.getD 0 .bad)).bind fun v0=>(Ab.asInt .i64 (vs.getD 1 .bad)).bind fun v1=>(Ab.asInt .i64 (vs.getD 2 .bad)).bind fun v2=>k v0 v1 v2⟩
abbrev Yj:fY R 6:=⟨⟩
instance:CoeFun (fY Unit 7) (fun _=>PV→PV):=⟨fun _=>fun p=>.agg [cell p 0,cell p 1,cell p 2]⟩
abbrev kG:fY Unit 7:=⟨⟩
instance:CoeFun (fY Unit 8) (fun _=>PV→PV):=⟨fun _=>fun p=>.agg [cell p 0,cell p 1,cell p 2,cell p 3]⟩
abbrev mE:fY Unit 8:=⟨⟩
instance:CoeFun (fY Unit 9) (fun _=>PV→PV):=⟨fun _=>fun p=>.agg [cell p 0,cell p 1,cell p 2,cell p 3,cell p 4]⟩
abbrev Yk:fY Unit 9:=⟨⟩
instance:CoeFun (fY Unit 10) (fun _=>PV→PV):=⟨fun _=>fun p=>.agg [cell p 0,cell p 1,cell p 2,cell p 3,cell p 4,cell p 5]⟩
abbrev am9:fY Unit 10:=⟨⟩
instance:CoeFun (fY Unit 11) (fun _=>PV→PV):=⟨fun _=>fun p=>.agg [cell p 0,cell p 1,cell p 2,cell p 3,cell p 4,cell p 5,cell p 6,cell p 7]⟩
abbrev Oo:fY Unit 11:=⟨⟩
instance:CoeFun (fY Unit 12) (fun _=>PV→PV):=⟨fun _=>fun p=>.agg [cell p 0,cell p 1,cell p 2,cell p 3,cell p 4,cell p 5,cell p 6,cell p 7,cell p 8]⟩
abbrev AB:fY Unit 12:=⟨⟩
instance:CoeFun (fY Unit 13) (fun _=>PV→PV):=⟨fun _=>fun p=>.agg [cell p 0,cell p 1,cell p 2,cell p 3,cell p 4,cell p 5,cell p 6,cell p 7,cell p 8,cell p 9,cell p 10,cell p 11]⟩
abbrev Wg:fY Unit 13:=⟨⟩
instance:CoeFun (fY Unit 14) (fun _=>PV→PV):=⟨fun _=>fun p=>.agg [cell p 0,cell p 1,cell p 2,cell p 3,cell p 4,cell p 5,cell p 6,cell p 7,cell p 8,cell p 9,cell p 10,cell p 11,cell p 12]⟩
abbrev Hz:fY Unit 14:=⟨⟩
instance:CoeFun (fY Unit 15) (fun _=>List PV→Bool):=⟨fun _=>fun l=>jo (Kd.int .i64::[].append (Kd.int .i64::[].append (Kd.int .i64::[].append []))) l⟩
abbrev aew:fY Unit 15:=⟨⟩
instance {R:Type}:CoeFun (fY R 16) (fun _=>PV→(Int→Int→Int→Bool→Option R)→Option R):=⟨fun _=>fun p k=>(Ab.asAgg 4 p).bind fun _=>(Ab.asInt .i64 (cell p 0)).bind fun v0=>(Ab.asInt .i64 (cell p 1)).bind fun v1=>(Ab.asInt .i64 (cell p 2)).bind fun v2=>(Ab.asBool (cell p 3)).bind fun v3=>k v0 v1 v2 v3⟩
abbrev aln:fY R 16:=⟨⟩
instance {R:Type}:CoeFun (fY R 17) (fun _=>PV→(Int→Int→Int→Int→Int→Bytes→Int→Int→Int→Int→Int→Bool→List PV→Option R)→Option R):=⟨fun _=>fun p k=>(Ab.asAgg 13 p).bind fun _=>(Ab.asInt .i64 (cell p 0)).bind fun v0=>(Ab.asInt .i64 (cell p 1)).bind fun v1=>(Ab.asInt .i64 (cell p 2)).bind fun v2=>(Ab.asInt .i64 (cell p 3)).bind fun v3=>(Ab.asInt .i64 (cell p 4)).bind fun v4=>(aZ (cell p 5)).bind fun v5=>(Ab.asInt .i64 (cell p 6)).bind fun v6=>(Ab.asInt .i64 (cell p 7)).bind fun v7=>(Ab.asInt .i64 (cell p 8)).bind fun v8=>(Ab.asInt .i64 (cell p 9)).bind fun v9=>(Ab.asInt .i64 (cell p 10)).bind fun v10=>(Ab.asBool (cell p 11)).bind fun v11=>(ah 5 (cell p 12)).bind fun v12=>k v0 v1 v2 v3 v4 v5 v6 v7 v8 v9 v10 v11 v12⟩
abbrev HN:fY R 17:=⟨⟩
instance {R:Type}:CoeFun (fY R 18) (fun _=>PV→(List PV→List PV→List PV→List PV→List PV→List PV→Int→Int→Int→Option R)→Option R):=⟨fun _=>fun p k=>(Ab.asAgg 9 p).bind fun _=>(ah 4 (cell p 0)).bind fun v0=>(ah 3 (cell p 1)).bind fun v1=>(ah 8 (cell p 2)).bind fun v2=>(ah 5 (cell p 3)).bind fun v3=>(ah 4 (cell p 4)).bind fun v4=>(ah 6 (cell p 5)).bind fun v5=>(Ab.asInt .i64 (cell p 6)).bind fun v6=>(Ab.asInt .i64 (cell p 7)).bind fun v7=>(Ab.asInt .i64 (cell p 8)).bind fun v8=>k v0 v1 v2 v3 v4 v5 v6 v7 v8⟩
abbrev Fj:fY R 18:=⟨⟩
instance {R:Type}:CoeFun (fY R 19) (fun _=>PV→(Int→Int→Int→Option R)→Option R):=⟨fun _=>fun p k=>(Ab.asAgg 3 p).bind fun _=>(Ab.asInt .i64 (cell p 0)).bind fun v0=>(Ab.asInt .i64 (cell p 1)).bind fun v1=>(Ab.asInt .i64 (cell p 2)).bind fun v2=>k v0 v1 v2⟩
abbrev Yl:fY R 19:=⟨⟩
instance {R:Type}:CoeFun (fY R 20) (fun _=>PV→(List PV→Int→Int→Int→Option R)→Option R):=⟨fun _=>fun p k=>(Ab.asAgg 4 p).bind fun _=>(ah 6 (cell p 0)).bind fun v0=>(Ab.asInt .i64 (cell p 1)).bind fun v1=>(Ab.asInt .i64 (cell p 2)).bind fun v2=>(Ab.asInt .i64 (cell p 3)).bind fun v3=>k v0 v1 v2 v3⟩
abbrev aex:fY R 20:=⟨⟩
instance {R:Type}:CoeFun (fY R 21) (fun _=>PV→(Int→Int→Int→Bytes→Int→Bool→Bool→List PV→Option R)→Option R):=⟨fun _=>fun p k=>(Ab.asAgg 8 p).bind fun _=>(Ab.asInt .i64 (cell p 0)).bind fun v0=>(Ab.asInt .i64 (cell p 1)).bind fun v1=>(Ab.asInt .i64 (cell p 2)).bind fun v2=>(aZ (cell p 3)).bind fun v3=>(Ab.asInt .i64 (cell p 4)).bind fun v4=>(Ab.asBool (cell p 5)).bind fun v5=>(Ab.asBool (cell p 6)).bind fun v6=>(ah 5 (cell p 7)).bind fun v7=>k v0 v1 v2 v3 v4 v5 v6 v7⟩
abbrev QV:fY R 21:=⟨⟩
instance {R:Type}:CoeFun (fY R 22) (fun _=>PV→(List PV→List PV→List PV→List PV→List PV→List PV→Int→Int→Int→Int→List PV→List PV→Int→Option R)→Option R):=⟨fun _=>fun p k=>(Ab.asAgg 13 p).bind fun _=>(ah 4 (cell p 0)).bind fun v0=>(ah 3 (cell p 1)).bind fun v1=>(ah 8 (cell p 2)).bind fun v2=>(ah 5 (cell p 3)).bind fun v3=>(ah 4 (cell p 4)).bind fun v4=>(ah 6 (cell p 5)).bind fun v5=>(Ab.asInt .i64 (cell p 6)).bind fun v6=>(Ab.asInt .i64 (cell p 7)).bind fun v7=>(Ab.asInt .i64 (cell p 8)).bind fun v8=>(Ab.asInt .i64 (cell p 9)).bind fun v9=>(ah 2 (cell p 10)).bind fun v10=>(ah 13 (cell p 11)).bind fun v11=>(Ab.asInt .i64 (cell p 12)).bind fun v12=>k v0 v1 v2 v3 v4 v5 v6 v7 v8 v9 v10 v11 v12⟩
abbrev acP:fY R 22:=⟨⟩
instance {R:Type}:CoeFun (fY R 23) (fun _=>PV→(Int→List PV→List PV→Option R)→Option R):=⟨fun _=>fun p k=>(Ab.asAgg 3 p).bind fun _=>(Ab.asInt .i64 (cell p 0)).bind fun v0=>(ah 2 (cell p 1)).bind fun v1=>(ah 13 (cell p 2)).bind fun v2=>k v0 v1 v2⟩
abbrev ah8:fY R 23:=⟨⟩
instance {R:Type}:CoeFun (fY R 24) (fun _=>PV→(Bytes→Int→Int→Bool→List PV→Option R)→Option R):=⟨fun _=>fun p k=>(Ab.asAgg 5 p).bind fun _=>(aZ (cell p 0)).bind fun v0=>(Ab.asInt .i64 (cell p 1)).bind fun v1=>(Ab.asInt .i64 (cell p 2)).bind fun v2=>(Ab.asBool (cell p 3)).bind fun v3=>(ah 5 (cell p 4)).bind fun v4=>k v0 v1 v2 v3 v4⟩
abbrev Ym:fY R 24:=⟨⟩
instance {R:Type}:CoeFun (fY R 25) (fun _=>PV→(Int→Int→Int→Int→Option R)→Option R):=⟨fun _=>fun p k=>(Ab.asAgg 4 p).bind fun _=>(Ab.asInt .i64 (cell p 0)).bind fun v0=>(Ab.asInt .i64 (cell p 1)).bind fun v1=>(Ab.asInt .i64 (cell p 2)).bind fun v2=>(Ab.asInt .i64 (cell p 3)).bind fun v3=>k v0 v1 v2 v3⟩
abbrev QW:fY R 25:=⟨⟩
instance {R:Type}:CoeFun (fY R 26) (fun _=>PV→(List PV→List PV→List PV→List PV→List PV→List PV→List PV→List PV→List PV→List PV→Int→Int→Int→Option R)→Option R):=⟨fun _=>fun p k=>(Ab.asAgg 13 p).bind fun _=>(ah 4 (cell p 0)).bind fun v0=>(ah 3 (cell p 1)).bind fun v1=>(ah 10 (cell p 2)).bind fun v2=>(ah 3 (cell p 3)).bind fun v3=>(ah 5 (cell p 4)).bind fun v4=>(ah 4 (cell p 5)).bind fun v5=>(ah 2 (cell p 6)).bind fun v6=>(ah 3 (cell p 7)).bind fun v7=>(ah 4 (cell p 8)).bind fun v8=>(ah 6 (cell p 9)).bind fun v9=>(Ab.asInt .i64 (cell p 10)).bind fun v10=>(Ab.asInt .i64 (cell p 11)).bind fun v11=>(Ab.asInt .i64 (cell p 12)).bind fun v12=>k v0 v1 v2 v3 v4 v5 v6 v7 v8 v9 v10 v11 v12⟩
abbrev oc:fY R 26:=⟨⟩
instance:CoeFun (fY Unit 27) (fun _=>Bool→Bool→Bool→Bool→Bool→PV):=⟨fun _=>fun v0 v1 v2 v3 v4=>.agg [.bool v0,.bool v1,.bool v2,.bool v3,.bool v4]⟩
abbrev acQ:fY Unit 27:=⟨⟩
instance:CoeFun (fY Unit 28) (fun _=>Int→Int→Int→Int→Bool→PV):=⟨fun _=>fun v0 v1 v2 v3 v4=>.agg [.int .i64 v0,.int .i64 v1,.int .i64 v2,.int .i64 v3,.bool v4]⟩
abbrev aey:fY Unit 28:=⟨⟩
instance:CoeFun (fY Unit 29) (fun _=>Int→Int→Int→Bytes→Int→Bool→Bool→List PV→PV):=⟨fun _=>fun v0 v1 v2 v3 v4 v5 v6 v7=>.agg [.int .i64 v0,.int .i64 v1,.int .i64 v2,.str v3,.int .i64 v4,.bool v5,.bool v6,.rs 5 v7]⟩
abbrev Lc:fY Unit 29:=⟨⟩
instance:CoeFun (fY Unit 30) (fun _=>List PV→List PV→List PV→List PV→List PV→List PV→List PV→List PV→List PV→List PV→Int→Int→Int→PV):=⟨fun _=>fun v0 v1 v2 v3 v4 v5 v6 v7 v8 v9 v10 v11 v12=>.agg [.rs 4 v0,.rs 3 v1,.rs 10 v2,.rs 3 v3,.rs 5 v4,.rs 4 v5,.rs 2 v6,.rs 3 v7,.rs 4 v8,.rs 6 v9,.int .i64 v10,.int .i64 v11,.int .i64 v12]⟩
abbrev vR:fY Unit 30:=⟨⟩
instance:CoeFun (fY Unit 31) (fun _=>List PV→List PV→List PV→List PV→List PV→List PV→Int→Int→Int→PV):=⟨fun _=>fun v0 v1 v2 v3 v4 v5 v6 v7 v8=>.agg [.rs 4 v0,.rs 3 v1,.rs 8 v2,.rs 5 v3,.rs 4 v4,.rs 6 v5,.int .i64 v6,.int .i64 v7,.int .i64 v8]⟩
abbrev sY:fY Unit 31:=⟨⟩
instance:CoeFun (fY Unit 32) (fun _=>List PV→List PV→List PV→List PV→List PV→List PV→Int→Int→Int→Int→List PV→List PV→Int→PV):=⟨fun _=>fun v0 v1 v2 v3 v4 v5 v6 v7 v8 v9 v10 v11 v12=>.agg [.rs 4 v0,.rs 3 v1,.rs 8 v2,.rs 5 v3,.rs 4 v4,.rs 6 v5,.int .i64 v6,.int .i64 v7,.int .i64 v8,.int .i64 v9,.rs 2 v10,.rs 13 v11,.int .i64 v12]⟩
abbrev Yn:fY Unit 32:=⟨⟩
instance:CoeFun (fY Unit 33) (fun _=>Bytes→Int→Int→Bool→List PV→PV):=⟨fun _=>fun v0 v1 v2 v3 v4=>.agg [.str v0,.int .i64 v1,.int .i64 v2,.bool v3,.rs 5 v4]⟩
abbrev aez:fY Unit 33:=⟨⟩
instance {R:Type}:CoeFun (fY R 34) (fun _=>PV→Nat→(Int→Option R)→Option R):=⟨fun _=>fun p j k=>(Ab.asInt .i64 (cell p j)).bind k⟩
abbrev aD:fY R 34:=⟨⟩
instance {R:Type}:CoeFun (fY R 35) (fun _=>PV→Nat→(Bool→Option R)→Option R):=⟨fun _=>fun p j k=>(Ab.asBool (cell p j)).bind k⟩
abbrev Fy:fY R 35:=⟨⟩
instance {R:Type}:CoeFun (fY R 36) (fun _=>Nat→PV→Nat→(List PV→Option R)→Option R):=⟨fun _=>fun s p j k=>(ah s (cell p j)).bind k⟩
abbrev eD:fY R 36:=⟨⟩
instance {R:Type}:CoeFun (fY R 37) (fun _=>PV→(Int→Option R)→Option R):=⟨fun _=>fun p k=>(Ab.asInt .i64 p).bind k⟩
abbrev bP:fY R 37:=⟨⟩
instance {R:Type}:CoeFun (fY R 38) (fun _=>PV→(Bool→Option R)→Option R):=⟨fun _=>fun p k=>(Ab.asBool p).bind k⟩
abbrev mcb:fY R 38:=⟨⟩
instance {R:Type}:CoeFun (fY R 39) (fun _=>Nat→PV→(Unit→Option R)→Option R):=⟨fun _=>fun n p k=>(Ab.asAgg n p).bind k⟩
abbrev so:fY R 39:=⟨⟩
instance {R:Type}:CoeFun (fY R 40) (fun _=>List PV→Nat→(Int→Option R)→Option R):=⟨fun _=>fun p j k=>(Ab.asInt .i64 (p.getD j .bad)).bind k⟩
abbrev mcG:fY R 40:=⟨⟩
instance {R:Type}:CoeFun (fY R 41) (fun _=>(List PV→Option PV)→List PV→(Int→Option R)→Option R):=⟨fun _=>fun f l k=>(f l).bind fun r=>(Ab.asInt .i64 r).bind k⟩
abbrev Fz:fY R 41:=⟨⟩
instance {R:Type}:CoeFun (fY R 42) (fun _=>(List PV→Option PV)→List PV→(Bool→Option R)→Option R):=⟨fun _=>fun f l k=>(f l).bind fun r=>(Ab.asBool r).bind k⟩
abbrev cU:fY R 42:=⟨⟩
instance {R:Type}:CoeFun (fY R 43) (fun _=>List PV→Int→(PV→Option R)→Option R):=⟨fun _=>fun l i k=>(og l i).bind k⟩
abbrev bt:fY R 43:=⟨⟩
instance {R:Type}:CoeFun (fY R 44) (fun _=>(List PV→Option PV)→List PV→(PV→Option R)→Option R):=⟨fun _=>fun f l k=>(f l).bind k⟩
abbrev eU:fY R 44:=⟨⟩
instance {R:Type}:CoeFun (fY R 45) (fun _=>Bool→Option Bool→(Bool→Option R)→Option R):=⟨fun _=>fun c x k=>(bif c then some true else x).bind k⟩
abbrev b9:fY R 45:=⟨⟩
instance {R:Type}:CoeFun (fY R 46) (fun _=>Bool→Option Bool→(Bool→Option R)→Option R):=⟨fun _=>fun c x k=>(bif c then x else some false).bind k⟩
abbrev cO:fY R 46:=⟨⟩
instance {R:Type}:CoeFun (fY R 47) (fun _=>List PV→Int→(PV→Option R)→Option R):=⟨fun _=>fun l i k=>if ax i l.length then l[i.toNat]?.bind k else none⟩
abbrev CH:fY R 47:=⟨⟩
instance:CoeFun (fY Unit 48) (fun _=>Int→Int):=⟨fun _=>IntKind.i64.wrap⟩
abbrev ay:fY Unit 48:=⟨⟩
instance:CoeFun PV (fun _=>Nat→PV):=⟨cell⟩
instance:Coe Int PV:=⟨.int .i64⟩
abbrev TY0:=List PV×Int×Int×List PV×List PV×List PV×List PV×List PV×List PV×Int×Int×Int×Int×Int×Int×List (PV×PV)×List (PV×PV)×List (PV×PV)×Unit
abbrev TY1:=List PV×List PV×Int×Int×Int×Unit
abbrev TY2:=PV×List PV×Int×Int×List PV×Int×PV×PV×PV×List PV×Unit
abbrev TY3:=Int×PV×List PV×Int×Int×Int×List PV×PV×PV×PV×List PV×Unit
abbrev TY4:=Int×PV×Int×Int×Int×Int×PV×PV×PV×List PV×List PV×Unit
abbrev TY5:=Int×PV×Int×List PV×List PV×Unit
abbrev TY6:=Bool×List PV×Int×Int×List (PV×PV)×Unit
abbrev TY7:=Int×Bool×List PV×Int×Int×List (PV×PV)×Unit
abbrev TY8:=List PV×List PV×Int×Int×List PV×Unit
abbrev TY9:=List PV×List PV×Int×Int×Int×List PV×Int×Int×List PV×Unit
abbrev alo:=Int×List PV×Int×Int×List (PV×PV)×Unit
abbrev ad9:=List PV×Int×Int×List PV×List PV×List PV×List PV×List PV×List PV×Int×Int×Int×Int×Int×Int×List (PV×PV)×Unit
abbrev alp:=List PV×Int×Int×Int×Int×Int×Unit
abbrev aeA:=List PV×Int×Int×List (PV×PV)×Unit
abbrev ah9:=List PV×Int×Bool×Int×List PV×Unit
abbrev ana:=List PV×Int×Bool×Int×Int×List PV×List PV×Unit
abbrev ago:=Int×List PV×List PV×Int×List PV×Unit
abbrev anb:=Int×List PV×List PV×Int×Int×List PV×Unit
abbrev anc:=Int×List PV×Int×Int×Int×List PV×Int×Int×Int×Unit
abbrev aeB:=Int×List PV×List PV×List PV×List PV×List PV×List PV×Int×Int×Int×List PV×List PV×List PV×List PV×List PV×List PV×Int×Int×Int×Unit
abbrev ane:=Int×Int×Int×List PV×Int×Int×PV×PV×PV×PV×PV×PV×PV×PV×PV×PV×Unit
abbrev alq:=Int×Int×List PV×Int×Int×PV×PV×PV×PV×List PV×Unit
abbrev anf:=Int×Int×Int×Int×List PV×Int×Int×PV×PV×PV×PV×List PV×Unit
abbrev aia:=Int×List PV×Int×Int×List PV×Unit
abbrev ang:=Int×Int×Int×List PV×Int×Int×List (PV×PV)×Unit
abbrev aib:=List PV×List PV×List PV×Int×Int×Unit
abbrev anh:=List PV×List PV×Int×Int×Bool×List PV×Int×Int×List PV×Int×Int×PV×PV×PV×PV×Unit
abbrev ani:=List PV×List PV×List (PV×PV)×Unit
abbrev anj:=List PV×List PV×List PV×List PV×Int×Int×List (PV×PV)×List (PV×PV)×Unit
abbrev ank:=List PV×Int×List PV×Int×Int×Unit
abbrev anl:=List PV×List PV×Int×List PV×Int×Int×List (PV×PV)×Unit
abbrev anm:=Int×Int×Int×Bytes×Int×Int×Bool×List PV×List PV×Unit
abbrev ann:=Int×Int×Int×Int×Int×List PV×Unit
abbrev ano:=List PV×List PV×Int×Int×Bool×Int×PV×PV×PV×PV×Unit
abbrev anp:=List PV×List PV×List PV×Int×Unit
abbrev anq:=List PV×Int×Int×PV×PV×PV×Unit
abbrev anr:=List PV×Int×Int×Int×PV×PV×PV×PV×Unit
abbrev aic:=Int×List PV×List PV×List PV×List PV×List PV×List PV×List PV×List PV×List PV×List PV×Int×Int×Int×Unit
abbrev alr:=List PV×Int×Int×List PV×Int×List PV×Unit
abbrev ans:=List PV×Int×Int×List PV×Int×Int×List PV×Unit
abbrev als:=Int×Int×List PV×List PV×List PV×List PV×List PV×List PV×Int×Int×Int×Int×Int×Int×List PV×Int×Int×Int×List PV×List PV×List PV×List PV×List PV×Unit
abbrev alu:=Int×List PV×Int×Int×Int×Int×Int×Bytes×Int×Bool×Bool×List PV×Bool×PV×PV×PV×PV×PV×Int×Int×Int×Bytes×Int×Bool×Bool×List PV×Unit
abbrev alv:=List PV×Int×Int×List PV×List PV×List PV×List PV×List PV×List PV×List PV×List PV×List PV×List PV×Int×Int×Int×List (PV×PV)×Unit
abbrev alw:=List PV×PV×Int×List PV×Int×Int×List PV×PV×PV×PV×PV×PV×PV×PV×PV×Int×Int×Int×Int×Bool×Unit
abbrev aly:=List PV×PV×Int×Int×List PV×List PV×List PV×List PV×List PV×List PV×List PV×List PV×List PV×List PV×Int×Int×Int×List PV×Unit
abbrev afv:=Int×Int×Int×Int×List PV×List PV×List PV×List PV×List PV×List PV×List PV×List PV×List PV×List PV×Int×Int×Int×List PV×Unit
abbrev alz:=Int×List PV×Int×Int×Int×Int×Int×Int×PV×PV×PV×PV×PV×Int×Int×Int×Bytes×Int×Bool×Bool×List PV×List PV×List PV×List PV×List PV×List PV×List PV×List PV×List PV×List PV×List PV×Int×Int×Int×List PV×Unit
abbrev QX:=Int×Int×List PV×List PV×List PV×List PV×List PV×List PV×List PV×List PV×List PV×List PV×Int×Int×Int×List PV×Unit
abbrev alA:=List PV×Int×Int×Bool×Int×List PV×List PV×List PV×List PV×List PV×List PV×List PV×List PV×List PV×List PV×Int×Int×Int×List PV×PV×PV×PV×PV×PV×PV×PV×PV×Unit
abbrev alB:=Int×List PV×Int×Int×Int×Int×Bytes×Int×Bool×Bool×Int×Int×Int×Bytes×Int×Bool×Bool×List PV×Unit
abbrev alC:=Int×Int×List PV×Int×List PV×List PV×List PV×List PV×List PV×List PV×List PV×List PV×List PV×List PV×Int×Int×Int×List PV×Unit
abbrev alD:=List PV×Int×Int×Int×Int×Bytes×Int×Bool×Bool×List PV×Unit
abbrev afw:=List PV×Int×List PV×List PV×List PV×List PV×List PV×List PV×List PV×List PV×List PV×List PV×Int×Int×Int×Unit
abbrev alE:=List PV×Int×Int×List PV×List PV×List PV×List PV×List PV×List PV×List PV×List PV×List PV×List PV×Int×Int×Int×Unit
abbrev alF:=List PV×Int×List PV×List PV×List PV×List PV×List PV×List PV×List PV×List PV×List PV×List PV×Int×Int×Int×List PV×Unit
abbrev alG:=List PV×Int×Int×Int×Int×Int×Int×Int×Bytes×Int×Int×Int×Int×Int×Bool×List PV×Unit
abbrev alH:=Int×Int×List PV×List PV×List PV×List PV×List PV×List PV×Int×Int×Int×List PV×List PV×List PV×List PV×List PV×List PV×Int×Int×Int×List PV×Unit
abbrev alI:=Int×List PV×List PV×List PV×List PV×List PV×List PV×Int×Int×Int×List PV×List PV×List PV×List PV×List PV×List PV×Int×Int×Int×List PV×Unit
abbrev alJ:=Int×List PV×List PV×List PV×List PV×List PV×List PV×Int×Int×Int×Int×List PV×List PV×Int×List PV×Unit
abbrev alK:=Int×Int×Int×List PV×List PV×PV×PV×PV×PV×PV×PV×PV×PV×PV×PV×PV×PV×PV×Unit
abbrev afx:=Int×Int×Int×List PV×List PV×List PV×Unit
abbrev alL:=Int×Int×Int×Int×List PV×List PV×List PV×PV×PV×PV×PV×PV×PV×PV×PV×PV×PV×PV×PV×PV×Unit
def sJ(L:aX)(p0 p1:PV):Option PV:=bP p0 fun a=>bP p1 fun b=>if(a !=a)then if(b !=b)then some (PV.int .i64 0)else some (PV.int .i64 (-1))else if(b !=b)then some (PV.int .i64 1)else if decide (a<b)then some (PV.int .i64 (-1))else if decide (a>b)then some (PV.int .i64 1)else some (PV.int .i64 0)
def fx:List PV→Option PV|[p0,p1]=>sJ aV p0 p1|_=>none
def eT:df (Int×List PV×Int×Int×Unit):=fun(a,b,c,d,_)=>fun e=>if decide (d<c)then bt b d fun f=>aD f 0 fun f=>if(f !=a)then some (f)else e (a,b,c,ay (d+1),())
else some (a)
def DQ(L:aX)(p0:PV):Option PV:=(ah 1 p0).bind fun a=>L.run eT (0,a,(↑a.length:Int),0,())
def tK:List PV→Option PV|[p0]=>DQ aV p0|_=>none
def nH(L:aX)(p0 p1:PV):Option PV:=aln p0 fun a b c _=>aln p1 fun d e f _=>Fz fx [a,d] fun d=>Fz fx [b,e] fun e=>Fz fx [c,f] fun f=>Fz tK [.rs 1 [d,e,f]] fun f=>some (f)
def cr:List PV→Option PV|[p0,p1]=>nH aV p0 p1|_=>none
def nu(L:aX)(p0 p1:PV):Option PV:=dp 3 p0 (bP p1 fun _=>some (PV.bool false)) fun a=>eD 4 a 0 fun b=>aD a 1 fun _=>eD 13 a 2 fun _=>bP p1 fun a=>cO (decide (a≥0)) (some (decide (a<(↑b.length:Int)))) fun a=>some (PV.bool a)
def ff:List PV→Option PV|[p0,p1]=>nu aV p0 p1|_=>none
def vc(L:aX)(p0 p1 p2:PV):Option PV:=dp 2 p0 (bP p1 fun _=>bP p2 fun _=>none) fun a=>Fy a 0 fun b=>aD a 1 fun a=>bP p1 fun c=>bP p2 fun d=>b9 (!b) (cO (decide (c>a)) (some (decide (IntKind.u64.wrap (IntKind.u64.wrap c-IntKind.u64.wrap a)>IntKind.u64.wrap d))) fun d=>some d) fun d=>some (PV.bool d)
def sj:List PV→Option PV|[p0,p1,p2]=>vc aV p0 p1 p2|_=>none
def nv(L:aX)(p0:PV)(p1:PV)(p2:PV):Option PV:=dp 3 p0 ((Ab.asInt .i64 p1).bind fun a=>(Ab.asInt .i64 p2).bind fun _=>(ff [PV.ig,.int .i64 a]).bind fun a=>(Ab.asBool a).bind fun a=>(bif a then none else some false).bind fun a=>some (PV.bool a)) fun a=>(ah 4 (cell a 0)).bind fun b=>(Ab.asInt .i64 (cell a 1)).bind fun c=>(ah 13 (cell a 2)).bind fun a=>(Ab.asInt .i64 p1).bind fun d=>(Ab.asInt .i64 p2).bind fun e=>(ff [PV.rp [PV.rs 4 b,PV.int .i64 c,PV.rs 13 a],.int .i64 d]).bind fun a=>(Ab.asBool a).bind fun a=>(bif a then(og b d).bind fun a=>(sj [PV.rp [cell a 0,cell a 1,cell a 2,cell a 3],.int .i64 e,.int .i64 c]).bind fun a=>(Ab.asBool a).bind fun a=>some a else some false).bind fun a=>some (PV.bool a)
def dJ:List PV→Option PV|[p0,p1,p2]=>nv aV p0 p1 p2|_=>none
def E5(L:aX)(p0 p1:PV):Option PV:=HN p0 fun _ a _ _ _ b c d _ _ _ _ _=>HN p1 fun _ e _ _ _ f g h _ _ _ _ _=>if(!b==f)then some (PV.bool (Op.bytesLess b f))else if(c !=g)then some (PV.bool (decide (c<g)))else if(d !=h)then some (PV.bool (decide (d<h)))else some (PV.bool (decide (a<e)))
def B7:List PV→Option PV|[p0,p1]=>E5 aV p0 p1|_=>none
def vd(L:aX)(p0 p1:PV):Option PV:=HN p0 fun _ _ _ _ _ a b c _ _ _ _ _=>HN p1 fun _ _ _ _ _ d e f _ _ _ _ _=>cO (a==d) (some (b==e)) fun e=>cO e (some (c==f)) fun e=>some (PV.bool e)
def sk:List PV→Option PV|[p0,p1]=>vd aV p0 p1|_=>none
def lK:df (PV×Int×Int×Bool×Unit):=fun(a,b,c,d,_)=>fun e=>if d then if(c==b)then some (PV.bool true)else cJ 3 a (e (a,b,0,false,())) fun f g=>(Ab.asInt .i64 (bS (PV.int .i64 c) (PV.int .i64 0) (f.zip g))).bind fun h=>e (a,b,h,ml (PV.int .i64 c) (f.zip g),())
else some (PV.bool false)
def xy(L:aX)(p0 p1 p2:PV):Option PV:=cJ 3 p0 (bP p1 fun _=>bP p2 fun a=>L.run lK (PV.od,a,0,false,())) fun a b=>bP p1 fun c=>bP p2 fun d=>(Ab.asInt .i64 (bS (PV.int .i64 c) (PV.int .i64 0) (a.zip b))).bind fun e=>L.run lK (PV.rm 3 a b,d,e,ml (PV.int .i64 c) (a.zip b),())
def mP:List PV→Option PV|[p0,p1,p2]=>xy aV p0 p1 p2|_=>none
def J3(L:aX)(p0 p1 p2:PV):Option PV:=bP p0 fun a=>bP p1 fun b=>bP p2 fun c=>some (PV.agg [a,b,c])
def bm:List PV→Option PV|[p0,p1,p2]=>J3 aV p0 p1 p2|_=>none
def uY(L:aX)(p0 p1:PV):Option PV:=bP p0 fun a=>bP p1 fun b=>cO (decide (a≥0)) (some (decide (a<b))) fun b=>some (PV.bool b)
def dc:List PV→Option PV|[p0,p1]=>uY aV p0 p1|_=>none
def gx:df (TY0):=fun(a,b,c,d,e,f,g,h,i,j,k,l,m,n,o,p,q,r,_)=>fun s=>if decide (c<b)then bt a c fun t=>aD t 0 fun u=>cU dc [u,(↑f.length:Int)] fun u=>b9 (!u) (aD t 2 fun u=>cU dc [u,(↑f.length:Int)] fun u=>some !u) fun u=>b9 u (aD t 0 fun u=>aD t 2 fun v=>some (u==v)) fun v=>if v then eU bm [.int .i64 3,c,.int .i64 9] fun v=>so 3 v fun _=>some (kG v)else aD t 0 fun v=>bt f v fun v=>eD 5 v 7 fun v=>aD t 2 fun u=>bt f u fun u=>eD 5 u 7 fun u=>aD t 1 fun w=>cU dc [w,(↑v.length:Int)] fun w=>b9 (!w) (aD t 3 fun w=>cU dc [w,(↑u.length:Int)] fun w=>some !w) fun w=>if w then eU bm [.int .i64 3,c,.int .i64 9] fun w=>so 3 w fun _=>some (kG w)else aD t 0 fun w=>aD t 1 fun y=>aD t 2 fun z=>aD t 3 fun A=>aD t 0 fun B=>(Ab.asInt .i64 (bS (PV.int .i64 B) (PV.int .i64 0) p)).bind fun _=>aD t 1 fun C=>bt v C fun C=>aD C 0 fun C=>aD t 3 fun D=>bt u D fun D=>aD D 0 fun D=>if(C !=D)then eU bm [.int .i64 3,c,.int .i64 13] fun D=>so 3 D fun _=>some (kG D)else Fy t 4 fun D=>cO D (aD t 1 fun D=>b9 (ay (D+1) !=(↑v.length:Int)) (aD t 3 fun D=>some (D !=0)) fun D=>b9 D (some (ml (PV.int .i64 B) p)) fun D=>b9 D (aD t 2 fun D=>(Ab.asBool (bS (PV.int .i64 D) (PV.bool false) q)).bind fun D=>some D) fun D=>b9 D (aD t 2 fun D=>aD t 0 fun B=>cU mP [PV.rm 3 (List.map (fun x=>x.fst) p) (List.map (fun x=>x.snd) p),D,B] fun B=>some B) fun B=>some B) fun B=>if B then eU bm [.int .i64 3,c,.int .i64 19] fun B=>so 3 B fun _=>some (kG B)else(Ab.asBool (bS (PV.agg [w,y,z,A]) (PV.bool false) r)).bind fun B=>if B then eU bm [.int .i64 3,c,.int .i64 6] fun B=>so 3 B fun _=>some (kG B)else Fy t 4 fun B=>if B then aD t 0 fun B=>aD t 2 fun D=>aD t 2 fun t=>s (a,b,ay (c+1),d,e,f,g,h,i,j,k,l,m,n,o,dd (PV.int .i64 B) (PV.int .i64 t) p,dd (PV.int .i64 D) (PV.bool true) q,dd (PV.agg [w,y,z,A]) (PV.bool true) r,())else s (a,b,ay (c+1),d,e,f,g,h,i,j,k,l,m,n,o,p,q,dd (PV.agg [w,y,z,A]) (PV.bool true) r,())
else some (PV.agg [.int .i64 0,.int .i64 0,.int .i64 0])
def nA(L:aX)(p0:PV):Option PV:=Fj p0 fun a b c d e f g h i=>if decide ((↑d.length:Int)>1024)then eU bm [.int .i64 3,.int .i64 0,.int .i64 5] fun j=>so 3 j fun _=>some (kG j)else L.run gx (d,(↑d.length:Int),0,a,b,c,d,e,f,g,h,i,0,0,0,[],[],[],())
def fg:List PV→Option PV|[p0]=>nA aV p0|_=>none
def qH(L:aX)(p0:PV)(c1:PV):Option PV:=bP p0 fun a=>b9 (decide (a<0)) (bP c1 fun b=>some (decide (a≥b))) fun b=>some (PV.bool b)
def dF:List PV→Option PV|[p0,PV.rp [c1]]=>qH aV p0 c1|_=>none
def wo:df (List PV×Int×Int×Int×Unit):=fun(a,b,c,d,_)=>fun e=>if decide (c<b)then bt a c fun f=>aD f 0 fun f=>cU dF [f,PV.rp [d]] fun f=>if f then some (PV.int .i64 9)else e (a,b,ay (c+1),d,())
else some (PV.int .i64 0)
def pE(L:aX):df (TY1):=fun(a,b,c,d,e,_)=>fun f=>if decide (d<c)then bt b d fun g=>aD g 0 fun h=>cU dF [h,PV.rp [e]] fun h=>b9 h (aD g 1 fun h=>cU dF [h,PV.rp [e]] fun h=>some h) fun h=>if h then some (PV.int .i64 9)else aD g 2 fun h=>b9 (decide (h<0)) (aD g 2 fun h=>some (decide (h>1073741824))) fun h=>if h then some (PV.int .i64 2)else f (a,b,c,ay (d+1),e,())
else L.run wo (a,(↑a.length:Int),0,e,())
def va(L:aX)(p0 p1 p2:PV):Option PV:=bP p0 fun a=>(ah 3 p1).bind fun b=>(ah 1 p2).bind fun c=>b9 (decide (a<0)) (some (decide (a>64))) fun d=>if d then some (PV.int .i64 2)else if decide ((↑b.length:Int)>4096)then some (PV.int .i64 5)else L.run (pE L) (c,b,(↑b.length:Int),0,a,())
def lN:List PV→Option PV|[p0,p1,p2]=>va aV p0 p1 p2|_=>none
def xB(L:aX)(p0 p1:PV):Option PV:=Yl p0 fun _ a b=>Yl p1 fun _ c d=>b9 (decide (a<c)) (cO (a==c) (some (decide (b<d))) fun d=>some d) fun d=>some (PV.bool d)
def jS:List PV→Option PV|[p0,p1]=>xB aV p0 p1|_=>none
def ez(L:aX)(c01:PV)(c02:PV)(p1 p2:PV):Option PV:=(ah 4 c01).bind fun a=>bP c02 fun _=>bP p1 fun b=>bP p2 fun c=>bt a b fun b=>bt a c fun c=>cU jS [kG b,kG c] fun a=>if a then some (PV.bool true)else cU jS [kG c,kG b] fun a=>if a then some (PV.bool false)else aD b 3 fun a=>aD c 3 fun c=>some (PV.bool (decide (a<c)))
def aO:List PV→Option PV|[PV.rp [PV.fn 282 [],c01,c02],p1,p2]=>ez aV c01 c02 p1 p2|_=>none
def nN(dD:PV×List PV×Int×List PV×Unit→Option PV):df (TY2):=fun(a,_,c,d,e,f,_,_,_,j,_)=>fun _=>if decide (d<c)then none
else dD (a,e,f,j,())
def nE(Hn:TY2→Option PV):df (TY3):=fun(a,b,c,d,e,f,g,h,i,j,k,_)=>fun l=>cO (decide (a>0)) (cU aO [PV.rp [PV.fn 282 [],PV.rs 4 k,f],a,(ay ((ay (a-1)).tdiv 2))] fun m=>some m) fun m=>if m then if ax (ay ((ay (a-1)).tdiv 2)) k.length then k[(ay ((ay (a-1)).tdiv 2)).toNat]?.bind fun m=>CH k a fun n=>if ax a k.length then k[a.toNat]?.bind fun _=>if ax (ay ((ay (a-1)).tdiv 2)) (k.set a.toNat (mE m)).length then(k.set a.toNat (mE m))[(ay ((ay (a-1)).tdiv 2)).toNat]?.bind fun _=>l (ay ((ay (a-1)).tdiv 2),b,c,d,e,f,g,h,i,j,(k.set a.toNat (mE m)).set (ay ((ay (a-1)).tdiv 2)).toNat (mE n),())else none else none else none else Hn (b,c,d,ay (e+1),g,f,h,i,j,k,())
def cS(L:aX)(dD:PV×List PV×Int×List PV×Unit→Option PV):df (TY2):=fun(a,b,c,d,e,f,g,h,i,j,_)=>fun k=>if decide (d<c)then bt b d fun l=>aD l 1 fun m=>CH e m fun m=>aD m 2 fun m=>if decide (m<0)then aD l 1 fun m=>bP h fun n=>aD l 2 fun l=>bP i fun o=>if(j++[PV.agg [m,(ay (n+l)),(ay (o+1)),f]]).length*32≤ab∧0<32 then L.run (nE k) (ay ((↑(j++[PV.agg [m,(ay (n+l)),(ay (o+1)),f]]).length:Int)-1),a,b,c,d,ay (f+1),e,g,h,i,j++[PV.agg [m,(ay (n+l)),(ay (o+1)),f]],())else none else k (a,b,c,ay (d+1),e,f,g,h,i,j,())
else dD (a,e,f,j,())
def ef(L:aX)(dD:PV×List PV×Int×List PV×Unit→Option PV):df (TY4):=fun(a,b,c,d,e,f,g,h,i,j,k,_)=>fun l=>if decide (ay (ay (2*a)+1)≥(↑k.length:Int))then bP g fun m=>CH j m fun m=>aD m 2 fun m=>if decide (m≥0)then dD (b,j,c,k,())else bP g fun m=>CH j m fun _=>bP g fun n=>cJ 3 b (L.run (nN dD) (b,[],(↑0:Int),0,j.set m.toNat (PV.agg [g,h,i]),c,g,h,i,k,())) fun o p=>(ah 3 (bS (PV.int .i64 n) (PV.rs 0 []) (o.zip p))).bind fun p=>L.run (cS L dD) (b,p,(↑p.length:Int),0,j.set m.toNat (PV.agg [g,h,i]),c,g,h,i,k,())
else cO (decide (ay (ay (ay (2*a)+1)+1)<(↑k.length:Int))) (cU aO [PV.rp [PV.fn 282 [],PV.rs 4 k,c],(ay (ay (ay (2*a)+1)+1)),(ay (ay (2*a)+1))] fun p=>some p) fun p=>if p then cU aO [PV.rp [PV.fn 282 [],PV.rs 4 k,c],(ay (ay (ay (2*a)+1)+1)),a] fun p=>if(!p)then bP g fun p=>CH j p fun p=>aD p 2 fun p=>if decide (p≥0)then dD (b,j,c,k,())else bP g fun p=>CH j p fun _=>bP g fun m=>cJ 3 b (L.run (nN dD) (b,[],(↑0:Int),0,j.set p.toNat (PV.agg [g,h,i]),c,g,h,i,k,())) fun o n=>(ah 3 (bS (PV.int .i64 m) (PV.rs 0 []) (o.zip n))).bind fun n=>L.run (cS L dD) (b,n,(↑n.length:Int),0,j.set p.toNat (PV.agg [g,h,i]),c,g,h,i,k,())else if ax (ay (ay (ay (2*a)+1)+1)) k.length then k[(ay (ay (ay (2*a)+1)+1)).toNat]?.bind fun n=>CH k a fun p=>if ax a k.length then k[a.toNat]?.bind fun _=>if ax (ay (ay (ay (2*a)+1)+1)) (k.set a.toNat (mE n)).length then(k.set a.toNat (mE n))[(ay (ay (ay (2*a)+1)+1)).toNat]?.bind fun _=>l (ay (ay (ay (2*a)+1)+1),b,c,d,e,f,g,h,i,j,(k.set a.toNat (mE n)).set (ay (ay (ay (2*a)+1)+1)).toNat (mE p),())else none else none else none else cU aO [PV.rp [PV.fn 282 [],PV.rs 4 k,c],(ay (ay (2*a)+1)),a] fun p=>if(!p)then bP g fun p=>CH j p fun p=>aD p 2 fun p=>if decide (p≥0)then dD (b,j,c,k,())else bP g fun p=>CH j p fun _=>bP g fun n=>cJ 3 b (L.run (nN dD) (b,[],(↑0:Int),0,j.set p.toNat (PV.agg [g,h,i]),c,g,h,i,k,())) fun o m=>(ah 3 (bS (PV.int .i64 n) (PV.rs 0 []) (o.zip m))).bind fun m=>L.run (cS L dD) (b,m,(↑m.length:Int),0,j.set p.toNat (PV.agg [g,h,i]),c,g,h,i,k,())else if ax (ay (ay (2*a)+1)) k.length then k[(ay (ay (2*a)+1)).toNat]?.bind fun m=>CH k a fun p=>if ax a k.length then k[a.toNat]?.bind fun _=>if ax (ay (ay (2*a)+1)) (k.set a.toNat (mE m)).length then(k.set a.toNat (mE m))[(ay (ay (2*a)+1)).toNat]?.bind fun _=>l (ay (ay (2*a)+1),b,c,d,e,f,g,h,i,j,(k.set a.toNat (mE m)).set (ay (ay (2*a)+1)).toNat (mE p),())else none else none else none
def fL(L:aX):df (PV×List PV×Int×List PV×Unit):=fun(a,b,c,d,_)=>fun e=>if((↑d.length:Int)==0)then some (PV.rs 3 b)
else if ax 0 d.length then d[Int.toNat 0]?.bind fun f=>if ax (ay ((↑d.length:Int)-1)) d.length then d[(ay ((↑d.length:Int)-1)).toNat]?.bind fun g=>if ax 0 d.length then d[Int.toNat 0]?.bind fun h=>if ax 0 d.length then d[Int.toNat 0]?.bind fun _=>if ax (ay ((↑d.length:Int)-1)) (d.set (Int.toNat 0) (mE g)).length then(d.set (Int.toNat 0) (mE g))[(ay ((↑d.length:Int)-1)).toNat]?.bind fun _=>if(0:Int)≤0∧0≤ay ((↑d.length:Int)-1)∧ay ((↑d.length:Int)-1)≤(↑((d.set (Int.toNat 0) (mE g)).set (ay ((↑d.length:Int)-1)).toNat (mE h)).length:Int)∧4=4 then L.run (ef L e) (0,a,c,0,0,0,f 0,f 1,f 2,b,List.take ((ay ((↑d.length:Int)-1)).toNat-Int.toNat 0) ((d.set (Int.toNat 0) (mE g)).set (ay ((↑d.length:Int)-1)).toNat (mE h)),())else none else none else none else none else none else none
def CR(L:aX):df (TY5):=fun(a,b,c,d,e,_)=>fun f=>cO (decide (a>0)) (cU aO [PV.rp [PV.fn 282 [],PV.rs 4 e,c],a,(ay ((ay (a-1)).tdiv 2))] fun g=>some g) fun g=>if g then if ax (ay ((ay (a-1)).tdiv 2)) e.length then e[(ay ((ay (a-1)).tdiv 2)).toNat]?.bind fun g=>CH e a fun h=>if ax a e.length then e[a.toNat]?.bind fun _=>if ax (ay ((ay (a-1)).tdiv 2)) (e.set a.toNat (mE g)).length then(e.set a.toNat (mE g))[(ay ((ay (a-1)).tdiv 2)).toNat]?.bind fun _=>f (ay ((ay (a-1)).tdiv 2),b,c,d,(e.set a.toNat (mE g)).set (ay ((ay (a-1)).tdiv 2)).toNat (mE h),())else none else none else none else L.run (fL L) (b,d,c,e,())
def iD(L:aX):df (PV×Int×Int×Int×List PV×Unit):=fun(a,b,c,d,e,_)=>fun f=>if decide (d<c)then CH e d fun _=>f (a,b,c,ay (d+1),e.set d.toNat (PV.agg [d,.int .i64 (-1),.int .i64 (-1)]),())
else L.run (CR L) (ay ((↑1:Int)-1),a,ay (0+1),e,[PV.agg [b,.int .i64 0,.int .i64 0,.int .i64 0]],())
def sI(L:aX)(p0 p1 p2:PV):Option PV:=bP p0 fun a=>cJ 3 p1 (bP p2 fun b=>if 0≤a∧a≤a∧a.toNat*24≤ab∧0<24∧0<3 then L.run (iD L) (PV.od,b,(↑(List.replicate a.toNat (PV.agg [.int .i64 0,.int .i64 0,.int .i64 0])).length:Int),0,List.replicate a.toNat (PV.agg [.int .i64 0,.int .i64 0,.int .i64 0]),())else none) fun b c=>bP p2 fun d=>if 0≤a∧a≤a∧a.toNat*24≤ab∧0<24∧0<3 then L.run (iD L) (PV.rm 3 b c,d,(↑(List.replicate a.toNat (PV.agg [.int .i64 0,.int .i64 0,.int .i64 0])).length:Int),0,List.replicate a.toNat (PV.agg [.int .i64 0,.int .i64 0,.int .i64 0]),())else none
def gU:List PV→Option PV|[p0,p1,p2]=>sI aV p0 p1 p2|_=>none
def me:df (List PV×Int×Int×List PV×Unit):=fun(a,b,c,d,_)=>fun e=>if decide (c<b)then bt a c fun f=>aD f 1 fun f=>CH d c fun _=>e (a,b,ay (c+1),d.set c.toNat (PV.int .i64 f),())
else some (PV.rs 1 d)
def qQ(L:aX)(p0:PV):Option PV:=(ah 3 p0).bind fun a=>if 0≤(↑a.length:Int)∧(↑a.length:Int)≤(↑a.length:Int)∧(↑a.length:Int).toNat*8≤ab∧0<8∧0<1 then L.run me (a,(↑a.length:Int),0,List.replicate (↑a.length:Int).toNat (PV.int .i64 0),())else none
def jF:List PV→Option PV|[p0]=>qQ aV p0|_=>none
def j6(L:aX):df (TY6):=fun(a,b,c,d,e,_)=>fun f=>if decide (d<c)then bt b d fun g=>if a then aD g 1 fun h=>aD g 0 fun i=>(OH 3 (PV.int .i64 h) e).bind fun j=>if(j++[PV.agg [h,i,g 2]]).length*24≤ab∧0<24 then f (a,b,c,ay (d+1),dd (PV.int .i64 h) (PV.qg 3 (j++[PV.agg [h,i,g 2]])) (xW (PV.int .i64 h) e),())else none else aD g 0 fun j=>aD g 0 fun i=>(OH 3 (PV.int .i64 i) e).bind fun h=>if(h++[kG g]).length*24≤ab∧0<24 then f (a,b,c,ay (d+1),dd (PV.int .i64 j) (PV.qg 3 (h++[kG g])) (xW (PV.int .i64 i) e),())else none
else some (PV.rm 3 (List.map (fun x=>x.fst) e) (List.map (fun x=>x.snd.qA) e))
def nF(L:aX)(p0 p1:PV):Option PV:=(ah 3 p0).bind fun a=>mcb p1 fun b=>L.run (j6 L) (b,a,(↑a.length:Int),0,[],())
def gV:List PV→Option PV|[p0,p1]=>nF aV p0 p1|_=>none
def mR:df (Int×PV×Int×Int×List PV×Unit):=fun(a,b,c,d,e,_)=>fun f=>if decide (d<c)then eU gU [a,b,d] fun g=>(ah 3 g).bind fun g=>eU jF [.rs 3 g] fun g=>(ah 1 g).bind fun g=>CH e d fun _=>f (a,b,c,ay (d+1),e.set d.toNat (PV.rs 1 g),())
else some (PV.aI [.rs 1 e,.int .i64 0])
def zJ(L:aX)(p0 p1:PV):Option PV:=bP p0 fun a=>(ah 3 p1).bind fun b=>Fz lN [a,.rs 3 b,.rs 0 []] fun c=>if(c !=0)then some (PV.aI [.rs 1 [],c])else eU gV [.rs 3 b,.bool false] fun c=>cJ 3 c (if 0≤a∧a≤a∧a.toNat*24≤ab∧0<24∧0<1 then L.run mR (a,PV.od,(↑(List.replicate a.toNat (PV.rs 0 [])).length:Int),0,List.replicate a.toNat (PV.rs 0 []),())else none) fun c b=>if 0≤a∧a≤a∧a.toNat*24≤ab∧0<24∧0<1 then L.run mR (a,PV.rm 3 c b,(↑(List.replicate a.toNat (PV.rs 0 [])).length:Int),0,List.replicate a.toNat (PV.rs 0 []),())else none
def jh:List PV→Option PV|[p0,p1]=>zJ aV p0 p1|_=>none
def eG(L:aX):df (Int×List PV×List (PV×PV)×Unit):=fun(a,b,c,_)=>fun d=>if c.isEmpty then eU jh [a,.rs 3 b] fun e=>(bN 2 e).bind fun e=>(ah 1 (e.getD 0 .bad)).bind fun f=>mcG e 1 fun _=>some (PV.rs 1 f)
else vU c.length fun f=>c[f]?.bind fun e=>so 3 e.fst fun _=>bP e.snd fun g=>aD e.fst 0 fun h=>aD e.fst 1 fun e=>if(b++[PV.agg [h,e,g]]).length*24≤ab∧0<24 then d (a,b++[PV.agg [h,e,g]],c.eraseIdx f,())else none
def j7(L:aX):df (TY7):=fun(a,b,c,d,e,f,_)=>fun g=>if decide (e<d)then bt c e fun h=>cO b (Fy h 3 fun i=>some !i) fun i=>if i then g (a,b,c,d,ay (e+1),f,())else aD h 0 fun i=>aD h 1 fun j=>(Ab.asInt .i64 (bS (PV.agg [i,j,.bool false]) (PV.int .i64 0) f)).bind fun k=>b9 (!ml (PV.agg [i,j,.bool false]) f) (aD h 2 fun l=>some (decide (l<k))) fun l=>if l then aD h 2 fun l=>g (a,b,c,d,ay (e+1),dd (PV.agg [i,j,.bool false]) (PV.int .i64 l) f,())else g (a,b,c,d,ay (e+1),f,())
else if f.length≤maxLen then if(0:Int)≤0∧0≤(↑f.length:Int)∧(↑f.length:Int).toNat*24≤ab∧0<24∧0<3 then L.run (eG L) (a,List.replicate (Int.toNat 0) (PV.agg [.int .i64 0,.int .i64 0,.int .i64 0]),f,())else none else none
def nG(L:aX)(p0 p1 p2:PV):Option PV:=(ah 4 p0).bind fun a=>bP p1 fun b=>mcb p2 fun c=>L.run (j7 L) (b,c,a,(↑a.length:Int),0,[],())
def fk:List PV→Option PV|[p0,p1,p2]=>nG aV p0 p1 p2|_=>none
def iE(L:aX)(NV:TY8→Option PV):df (TY9):=fun(a,b,c,d,e,f,g,h,i,_)=>fun j=>if decide (h<g)then bt f h fun k=>aD k 0 fun k=>if(c==h)then j (a,b,c,d,e,f,g,ay (h+1),i,())else bt b c fun l=>eD 1 l 0 fun l=>bt l h fun l=>aD l 0 fun l=>cO (decide (k>0)) (some (decide (k≤14400))) fun m=>if m then if(i++[PV.agg [c,h,k,.bool (l==k)]]).length*32≤ab∧0<32 then if(l !=k)then cO (decide (l>0)) (some (decide (l≤14400))) fun m=>if m then if(i++[PV.agg [c,h,k,.bool (l==k)]]++[PV.agg [c,h,l,.bool true]]).length*32≤ab∧0<32 then j (a,b,c,d,e,f,g,ay (h+1),i++[PV.agg [c,h,k,.bool (l==k)]]++[PV.agg [c,h,l,.bool true]],())else none else j (a,b,c,d,e,f,g,ay (h+1),i++[PV.agg [c,h,k,.bool (l==k)]],())else j (a,b,c,d,e,f,g,ay (h+1),i++[PV.agg [c,h,k,.bool (l==k)]],())else none else if(l !=k)then cO (decide (l>0)) (some (decide (l≤14400))) fun m=>if m then if(i++[PV.agg [c,h,l,.bool true]]).length*32≤ab∧0<32 then j (a,b,c,d,e,f,g,ay (h+1),i++[PV.agg [c,h,l,.bool true]],())else none else j (a,b,c,d,e,f,g,ay (h+1),i,())else j (a,b,c,d,e,f,g,ay (h+1),i,())
else NV (a,b,d,ay (e+1),i,())
def iF(L:aX):df (TY8):=fun(d,e,f,g,h,_)=>fun i=>if decide (g<f)then bt d g fun j=>eD 1 j 0 fun j=>L.run (iE L i) (d,e,g,f,g,j,(↑j.length:Int),0,h,())
else if 4=4∧h.length≤ab∧Nat.blt 175 Ic then(Bc 4 (fun c a b=>cr [a,b]) h).bind fun alM=>some (PV.rs 4 alM)else none
def qR(L:aX)(p0 p1:PV):Option PV:=(ah 4 p0).bind fun a=>bP p1 fun b=>eU fk [.rs 4 a,b,.bool false] fun c=>(ah 1 c).bind fun c=>eU fk [.rs 4 a,b,.bool true] fun b=>(ah 1 b).bind fun b=>L.run (iF L) (c,b,(↑c.length:Int),0,[],())
def eN:List PV→Option PV|[p0,p1]=>qR aV p0 p1|_=>none
def pw:df (alo):=fun(a,b,c,d,e,_)=>fun f=>if decide (d<c)then bt b d fun g=>aD g 0 fun h=>aD g 1 fun i=>Fy g 3 fun j=>aD g 0 fun k=>if decide (k<0)then some (PV.aI [d,.int .i64 9])else aD g 0 fun k=>if decide (k≥a)then some (PV.aI [d,.int .i64 9])else aD g 1 fun k=>if decide (k<0)then some (PV.aI [d,.int .i64 9])else aD g 1 fun k=>if decide (k≥a)then some (PV.aI [d,.int .i64 9])else aD g 0 fun k=>aD g 1 fun l=>if(k==l)then some (PV.aI [d,.int .i64 9])else aD g 2 fun l=>if decide (l<1)then some (PV.aI [d,.int .i64 2])else aD g 2 fun l=>if decide (l>14400)then some (PV.aI [d,.int .i64 2])else(Ab.asBool (bS (PV.agg [h,i,.bool j]) (PV.bool false) e)).bind fun l=>if l then some (PV.aI [d,.int .i64 6])else f (a,b,c,ay (d+1),dd (PV.agg [h,i,.bool j]) (PV.bool true) e,())
else some (PV.aI [.int .i64 0,.int .i64 0])
def uZ(L:aX)(p0 p1:PV):Option PV:=(ah 4 p0).bind fun a=>bP p1 fun b=>L.run pw (b,a,(↑a.length:Int),0,[],())
def jc:List PV→Option PV|[p0,p1]=>uZ aV p0 p1|_=>none
def kU:df (List PV×List PV×Int×Int×Unit):=fun(a,b,c,d,_)=>fun e=>if decide (d<c)then bt b d fun f=>bt a d fun g=>if jo (Kd.int .i64::[].append (Kd.int .i64::[].append (Kd.int .i64::[].append (Kd.bool::[].append [])))) [f 0,f 1,f 2,f 3]=true∧jo (Kd.int .i64::[].append (Kd.int .i64::[].append (Kd.int .i64::[].append (Kd.bool::[].append [])))) [g 0,g 1,g 2,g 3]then if(!bO [f 0,f 1,f 2,f 3] [g 0,g 1,g 2,g 3])then some (PV.bool false)else e (a,b,c,ay (d+1),())else none
else some (PV.bool true)
def pz(L:aX)(p0 p1:PV):Option PV:=(ah 4 p0).bind fun a=>bP p1 fun b=>if decide (b>64)then some (PV.bool false)else gv jc [.rs 4 a,b] fun _ c=>if(c !=0)then some (PV.bool false)else eU eN [.rs 4 a,.int .i64 (if 0>b then 0 else b)] fun c=>(ah 4 c).bind fun c=>if((↑c.length:Int) !=(↑a.length:Int))then some (PV.bool false)else L.run kU (a,c,(↑c.length:Int),0,())
def iB:List PV→Option PV|[p0,p1]=>pz aV p0 p1|_=>none
def cH:df (ad9):=fun(a,b,c,d,e,f,g,h,i,j,k,l,m,n,o,p,_)=>fun q=>if decide (c<b)then bt a c fun r=>aD r 0 fun s=>aD r 1 fun t=>Fy r 3 fun u=>aD r 0 fun v=>cU dc [v,(↑d.length:Int)] fun v=>b9 (!v) (aD r 1 fun v=>cU dc [v,(↑d.length:Int)] fun v=>some !v) fun v=>b9 v (aD r 0 fun v=>aD r 1 fun w=>some (v==w)) fun w=>if w then eU bm [.int .i64 4,c,.int .i64 9] fun w=>so 3 w fun _=>some (kG w)else aD r 2 fun w=>b9 (decide (w<1)) (aD r 2 fun w=>some (decide (w>14400))) fun w=>if w then eU bm [.int .i64 4,c,.int .i64 2] fun w=>so 3 w fun _=>some (kG w)else(Ab.asBool (bS (PV.agg [s,t,.int .i64 0,.bool u]) (PV.bool false) p)).bind fun w=>if w then eU bm [.int .i64 4,c,.int .i64 6] fun w=>so 3 w fun _=>some (kG w)else q (a,b,ay (c+1),d,e,f,g,h,i,j,k,l,m,n,o,dd (PV.agg [s,t,.int .i64 0,.bool u]) (PV.bool true) p,())
else cU iB [.rs 4 h,(↑d.length:Int)] fun w=>if(!w)then eU bm [.int .i64 4,.int .i64 0,.int .i64 18] fun w=>so 3 w fun _=>some (kG w)else some (PV.agg [.int .i64 0,.int .i64 0,.int .i64 0])
def ny(L:aX)(p0:PV):Option PV:=Fj p0 fun a b c d e f g h i=>L.run cH (e,(↑e.length:Int),0,a,b,c,d,e,f,g,h,i,0,0,0,[],())
def cR:List PV→Option PV|[p0]=>ny aV p0|_=>none
def JV(L:aX)(p0 p1 p2 p3 p4:PV):Option PV:=(ah 5 p0).bind fun a=>bP p1 fun b=>bP p2 fun c=>bP p3 fun d=>bP p4 fun e=>bt a b fun f=>aD f 0 fun g=>b9 (decide (g<0)) (aD f 0 fun g=>some (decide (g≥c))) fun g=>if g then some (PV.int .i64 9)else cO (decide (b>0)) (bt a (ay (b-1)) fun g=>aD g 0 fun g=>aD f 0 fun c=>some (g==c)) fun c=>if c then some (PV.int .i64 13)else aD f 1 fun c=>b9 (decide (c<d)) (aD f 1 fun c=>aD f 2 fun d=>some (decide (c>d))) fun d=>b9 d (aD f 2 fun d=>some (decide (d>e))) fun d=>b9 d (cO (decide (b>0)) (aD f 1 fun d=>bt a (ay (b-1)) fun b=>aD b 2 fun b=>some (decide (d<b))) fun b=>some b) fun b=>if b then some (PV.int .i64 10)else some (PV.int .i64 0)
def zG:List PV→Option PV|[p0,p1,p2,p3,p4]=>JV aV p0 p1 p2 p3 p4|_=>none
def xw:df (alp):=fun(a,b,c,d,e,f,_)=>fun g=>if decide (f<e)then Fz zG [.rs 5 a,f,b,c,d] fun h=>if(h !=0)then some (PV.aI [f,h])else g (a,b,c,d,e,ay (f+1),())
else some (PV.aI [.int .i64 0,.int .i64 0])
def DL(L:aX)(p0 p1 p2 p3:PV):Option PV:=(ah 5 p0).bind fun a=>bP p1 fun b=>bP p2 fun c=>bP p3 fun d=>b9 (decide ((↑a.length:Int)<2)) (some (decide ((↑a.length:Int)>32))) fun e=>if e then some (PV.aI [.int .i64 0,.int .i64 5])else L.run xw (a,b,c,d,(↑a.length:Int),0,())
def lJ:List PV→Option PV|[p0,p1,p2,p3]=>DL aV p0 p1 p2 p3|_=>none
def uV:df (Bytes×Int×Unit):=fun(a,b,_)=>fun c=>if decide (b<(↑(List.length a):Int))then(Rm a b).bind fun d=>cO (decide (97≤(↑d.toNat:Int))) (some (decide ((↑d.toNat:Int)≤122))) fun e=>if e then c (a,ay (b+1),())else cO (decide (65≤(↑d.toNat:Int))) (some (decide ((↑d.toNat:Int)≤90))) fun e=>if e then c (a,ay (b+1),())else cO (decide (48≤(↑d.toNat:Int))) (some (decide ((↑d.toNat:Int)≤57))) fun e=>if e then c (a,ay (b+1),())else if((↑d.toNat:Int)==45)then c (a,ay (b+1),())else if((↑d.toNat:Int)==95)then c (a,ay (b+1),())else if((↑d.toNat:Int)==46)then c (a,ay (b+1),())else some (PV.bool false)
else cO (decide ((↑(List.length a):Int)>0)) (some (decide ((↑(List.length a):Int)≤32))) fun e=>some (PV.bool e)
def Bt(L:aX)(p0:PV):Option PV:=(aZ p0).bind fun a=>L.run uV (a,0,())
def dO:List PV→Option PV|[p0]=>Bt aV p0|_=>none
def gT:df (ad9):=fun(a,b,c,d,e,f,g,h,i,j,k,l,m,n,o,p,_)=>fun q=>if decide (c<b)then bt a c fun r=>(aZ (r 3)).bind fun s=>cU dO [.str s] fun s=>if(!s)then eU bm [.int .i64 2,c,.int .i64 12] fun s=>so 3 s fun _=>some (kG s)else aD r 0 fun s=>b9 (decide (s< -1)) (aD r 2 fun s=>some (decide (s<0))) fun s=>if s then eU bm [.int .i64 2,c,.int .i64 2] fun s=>so 3 s fun _=>some (kG s)else aD r 1 fun s=>b9 (decide (s<0)) (aD r 1 fun s=>some (decide (s>36524))) fun s=>if s then eU bm [.int .i64 2,c,.int .i64 11] fun s=>so 3 s fun _=>some (kG s)else aD r 4 fun s=>b9 (decide (s<0)) (aD r 4 fun s=>some (decide (s≥(↑e.length:Int)))) fun s=>if s then eU bm [.int .i64 2,c,.int .i64 9] fun s=>so 3 s fun _=>some (kG s)else eD 5 r 7 fun s=>gv lJ [.rs 5 s,(↑d.length:Int),.int .i64 0,.int .i64 3155932800] fun _ s=>if(s !=0)then eU bm [.int .i64 2,c,s] fun s=>so 3 s fun _=>some (kG s)else(aZ (r 3)).bind fun s=>aD r 1 fun t=>aD r 2 fun r=>(Ab.asBool (bS (PV.agg [.str s,t,r]) (PV.bool false) p)).bind fun u=>if u then eU bm [.int .i64 2,c,.int .i64 6] fun u=>so 3 u fun _=>some (kG u)else q (a,b,ay (c+1),d,e,f,g,h,i,j,k,l,m,n,o,dd (PV.agg [.str s,t,r]) (PV.bool true) p,())
else some (PV.agg [.int .i64 0,.int .i64 0,.int .i64 0])
def pA(L:aX)(p0:PV):Option PV:=Fj p0 fun a b c d e f g h i=>if decide ((↑c.length:Int)>1024)then eU bm [.int .i64 2,.int .i64 0,.int .i64 5] fun j=>so 3 j fun _=>some (kG j)else L.run gT (c,(↑c.length:Int),0,a,b,c,d,e,f,g,h,i,0,0,0,[],())
def iC:List PV→Option PV|[p0]=>pA aV p0|_=>none
def lL:df (alp):=fun(a,b,c,d,e,f,_)=>fun g=>if decide (c<b)then bt a c fun h=>aD h 2 fun i=>if(i !=0)then some (kG h)else g (a,b,ay (c+1),d,e,f,())
else some (PV.agg [.int .i64 0,.int .i64 0,.int .i64 0])
def xz(L:aX)(p0:PV):Option PV:=(ah 3 p0).bind fun a=>L.run lL (a,(↑a.length:Int),0,0,0,0,())
def eo:List PV→Option PV|[p0]=>xz aV p0|_=>none
def uX(L:aX)(p0 p1 p2:PV):Option PV:=bP p0 fun a=>bP p1 fun b=>bP p2 fun c=>cO (decide (a≥b)) (some (decide (a≤c))) fun c=>some (PV.bool c)
def cm:List PV→Option PV|[p0,p1,p2]=>uX aV p0 p1 p2|_=>none
def qO:df (aeA):=fun(a,b,c,d,_)=>fun e=>if decide (c<b)then bt a c fun f=>(aZ (f 0)).bind fun g=>cU dO [.str g] fun g=>if(!g)then some (PV.aI [c,.int .i64 12])else(aZ (f 0)).bind fun g=>(Ab.asBool (bS (PV.str g) (PV.bool false) d)).bind fun g=>if g then some (PV.aI [c,.int .i64 6])else aD f 1 fun g=>cU cm [g,.int .i64 0,.int .i64 1000000] fun g=>b9 (!g) (aD f 2 fun g=>cU cm [g,.int .i64 1,.int .i64 8] fun g=>some !g) fun g=>b9 g (aD f 3 fun g=>cU cm [g,.int .i64 1,.int .i64 16] fun g=>some !g) fun g=>b9 g (aD f 4 fun g=>cU cm [g,.int .i64 0,.int .i64 86400] fun g=>some !g) fun g=>b9 g (aD f 5 fun g=>cU cm [g,.int .i64 1,.int .i64 255] fun g=>some !g) fun g=>if g then some (PV.aI [c,.int .i64 2])else(aZ (f 0)).bind fun g=>e (a,b,ay (c+1),dd (PV.str g) (PV.bool true) d,())
else some (PV.aI [.int .i64 0,.int .i64 0])
def xv(L:aX)(p0:PV):Option PV:=aex p0 fun a b c d=>cU cm [b,.int .i64 0,.int .i64 1000000] fun b=>b9 (!b) (cU cm [c,.int .i64 0,.int .i64 86400] fun b=>some !b) fun b=>b9 b (cU cm [d,.int .i64 0,.int .i64 1000000] fun b=>some !b) fun b=>if b then some (PV.aI [.int .i64 (-1),.int .i64 2])else if decide ((↑a.length:Int)>16)then some (PV.aI [.int .i64 0,.int .i64 5])else L.run qO (a,(↑a.length:Int),0,[],())
def ek:List PV→Option PV|[p0]=>xv aV p0|_=>none
def Bv(L:aX)(p0:PV):Option PV:=bP p0 fun a=>cO (decide (a≥0)) (some (decide (a<8))) fun a=>some (PV.bool a)
def xt:List PV→Option PV|[p0]=>Bv aV p0|_=>none
def uW:df (aeA):=fun(a,b,c,d,_)=>fun e=>if decide (c<b)then bt a c fun f=>(aZ (f 0)).bind fun g=>cU dO [.str g] fun g=>if(!g)then some (PV.aI [c,.int .i64 12])else(aZ (f 0)).bind fun g=>(Ab.asBool (bS (PV.str g) (PV.bool false) d)).bind fun g=>if g then some (PV.aI [c,.int .i64 6])else aD f 1 fun g=>cU xt [g] fun g=>if(!g)then some (PV.aI [c,.int .i64 2])else(aZ (f 0)).bind fun g=>e (a,b,ay (c+1),dd (PV.str g) (PV.bool true) d,())
else some (PV.aI [.int .i64 0,.int .i64 0])
def Bu(L:aX)(p0:PV):Option PV:=(ah 3 p0).bind fun a=>if decide ((↑a.length:Int)>64)then some (PV.aI [.int .i64 0,.int .i64 5])else L.run uW (a,(↑a.length:Int),0,[],())
def mB:List PV→Option PV|[p0]=>Bu aV p0|_=>none
def xr:df (aeA):=fun(a,b,c,d,_)=>fun e=>if decide (c<b)then bt a c fun f=>(aZ (f 0)).bind fun g=>cU dO [.str g] fun g=>if(!g)then some (PV.aI [c,.int .i64 12])else(aZ (f 0)).bind fun g=>(Ab.asBool (bS (PV.str g) (PV.bool false) d)).bind fun g=>if g then some (PV.aI [c,.int .i64 6])else aD f 1 fun g=>b9 (decide (g<0)) (aD f 1 fun g=>some (decide (g≥16))) fun g=>b9 g (aD f 3 fun g=>some (decide (g<0))) fun g=>b9 g (aD f 3 fun g=>some (decide (g>3600))) fun g=>if g then some (PV.aI [c,.int .i64 2])else(aZ (f 0)).bind fun g=>e (a,b,ay (c+1),dd (PV.str g) (PV.bool true) d,())
else some (PV.aI [.int .i64 0,.int .i64 0])
def DK(L:aX)(p0:PV):Option PV:=(ah 4 p0).bind fun a=>if decide ((↑a.length:Int)>64)then some (PV.aI [.int .i64 0,.int .i64 5])else L.run xr (a,(↑a.length:Int),0,[],())
def pq:List PV→Option PV|[p0]=>DK aV p0|_=>none
def xA(L:aX)(p0:PV):Option PV:=Fj p0 fun a b c d e f g h i=>gv pq [.rs 4 a] fun j k=>gv mB [.rs 3 b] fun l m=>eU bm [.int .i64 0,j,k] fun k=>so 3 k fun _=>eU bm [.int .i64 1,l,m] fun m=>so 3 m fun _=>eU eo [.rs 3 [kG k,kG m]] fun m=>so 3 m fun _=>aD m 2 fun k=>if(k==0)then eU iC [sY a b c d e f g h i] fun k=>so 3 k fun _=>aD k 2 fun l=>if(l==0)then eU fg [sY a b c d e f g h i] fun l=>so 3 l fun _=>aD l 2 fun j=>if(j==0)then gv ek [.agg [.rs 6 f,g,h,i]] fun j n=>eU cR [sY a b c d e f g h i] fun o=>so 3 o fun _=>eU bm [.int .i64 5,j,n] fun n=>so 3 n fun _=>eU eo [.rs 3 [kG o,kG n]] fun n=>Yl n fun n o j=>some (PV.aI [n,o,j])else aD l 0 fun j=>aD l 1 fun o=>aD l 2 fun l=>some (PV.aI [j,o,l])else aD k 2 fun l=>if(l==0)then gv ek [.agg [.rs 6 f,g,h,i]] fun l o=>eU cR [sY a b c d e f g h i] fun j=>so 3 j fun _=>eU bm [.int .i64 5,l,o] fun o=>so 3 o fun _=>eU eo [.rs 3 [kG j,kG o]] fun o=>Yl o fun o j l=>some (PV.aI [o,j,l])else aD k 0 fun l=>aD k 1 fun j=>aD k 2 fun k=>some (PV.aI [l,j,k])else aD m 2 fun k=>if(k==0)then eU fg [sY a b c d e f g h i] fun k=>so 3 k fun _=>aD k 2 fun j=>if(j==0)then gv ek [.agg [.rs 6 f,g,h,i]] fun j l=>eU cR [sY a b c d e f g h i] fun o=>so 3 o fun _=>eU bm [.int .i64 5,j,l] fun l=>so 3 l fun _=>eU eo [.rs 3 [kG o,kG l]] fun l=>Yl l fun l o j=>some (PV.aI [l,o,j])else aD k 0 fun j=>aD k 1 fun o=>aD k 2 fun k=>some (PV.aI [j,o,k])else aD m 2 fun k=>if(k==0)then gv ek [.agg [.rs 6 f,g,h,i]] fun k o=>eU cR [sY a b c d e f g h i] fun i=>so 3 i fun _=>eU bm [.int .i64 5,k,o] fun o=>so 3 o fun _=>eU eo [.rs 3 [kG i,kG o]] fun o=>Yl o fun o i k=>some (PV.aI [o,i,k])else aD m 0 fun k=>aD m 1 fun i=>aD m 2 fun m=>some (PV.aI [k,i,m])
def mQ:List PV→Option PV|[p0]=>xA aV p0|_=>none
def nj(L:aX)(p0:PV):Option PV:=(ah 5 p0).bind fun a=>if([]++a).length*32≤ab∧0<32 then if 0≤(↑([]++a).length:Int)∧(↑([]++a).length:Int)≤(↑([]++a).length:Int)∧(↑([]++a).length:Int)≤(↑([]++a).length:Int)∧5=5 then some (PV.rs 5 (List.take (↑([]++a).length:Int).toNat ([]++a)))else none else none
def fj:List PV→Option PV|[p0]=>nj aV p0|_=>none
def jB(L:aX)(p0:PV):Option PV:=(ah 4 p0).bind fun a=>if([]++a).length*32≤ab∧0<32 then if 0≤(↑([]++a).length:Int)∧(↑([]++a).length:Int)≤(↑([]++a).length:Int)∧(↑([]++a).length:Int)≤(↑([]++a).length:Int)∧4=4 then some (PV.rs 4 (List.take (↑([]++a).length:Int).toNat ([]++a)))else none else none
def dz:List PV→Option PV|[p0]=>jB aV p0|_=>none
def nk(L:aX)(p0:PV):Option PV:=(ah 5 p0).bind fun a=>if([]++a).length*40≤ab∧0<40 then if 0≤(↑([]++a).length:Int)∧(↑([]++a).length:Int)≤(↑([]++a).length:Int)∧(↑([]++a).length:Int)≤(↑([]++a).length:Int)∧5=5 then some (PV.rs 5 (List.take (↑([]++a).length:Int).toNat ([]++a)))else none else none
def fi:List PV→Option PV|[p0]=>nk aV p0|_=>none
def j5(L:aX)(p0:PV):Option PV:=(ah 6 p0).bind fun a=>if([]++a).length*56≤ab∧0<56 then if 0≤(↑([]++a).length:Int)∧(↑([]++a).length:Int)≤(↑([]++a).length:Int)∧(↑([]++a).length:Int)≤(↑([]++a).length:Int)∧6=6 then some (PV.rs 6 (List.take (↑([]++a).length:Int).toNat ([]++a)))else none else none
def dL:List PV→Option PV|[p0]=>j5 aV p0|_=>none
def ma(L:aX)(p0:PV):Option PV:=(ah 3 p0).bind fun a=>if([]++a).length*32≤ab∧0<32 then if 0≤(↑([]++a).length:Int)∧(↑([]++a).length:Int)≤(↑([]++a).length:Int)∧(↑([]++a).length:Int)≤(↑([]++a).length:Int)∧3=3 then some (PV.rs 3 (List.take (↑([]++a).length:Int).toNat ([]++a)))else none else none
def eF:List PV→Option PV|[p0]=>ma aV p0|_=>none
def oQ(L:aX)(p0:PV):Option PV:=(ah 8 p0).bind fun a=>if([]++a).length*80≤ab∧0<80 then if 0≤(↑([]++a).length:Int)∧(↑([]++a).length:Int)≤(↑([]++a).length:Int)∧(↑([]++a).length:Int)≤(↑([]++a).length:Int)∧8=8 then some (PV.rs 8 (List.take (↑([]++a).length:Int).toNat ([]++a)))else none else none
def fK:List PV→Option PV|[p0]=>oQ aV p0|_=>none
def nm(L:aX)(p0:PV):Option PV:=(ah 4 p0).bind fun a=>if([]++a).length*40≤ab∧0<40 then if 0≤(↑([]++a).length:Int)∧(↑([]++a).length:Int)≤(↑([]++a).length:Int)∧(↑([]++a).length:Int)≤(↑([]++a).length:Int)∧4=4 then some (PV.rs 4 (List.take (↑([]++a).length:Int).toNat ([]++a)))else none else none
def fh:List PV→Option PV|[p0]=>nm aV p0|_=>none
def zK(L:aX)(p0:PV):Option PV:=bP p0 fun a=>cO (decide (0≤a)) (some (decide (a≤36524))) fun a=>some (PV.bool a)
def cM:List PV→Option PV|[p0]=>zK aV p0|_=>none
def BE(L:aX)(p0 p1 p2:PV):Option PV:=bP p0 fun a=>bP p1 fun b=>bP p2 fun c=>cO (decide (a≥b)) (some (decide (a≤c))) fun c=>some (PV.bool c)
def dM:List PV→Option PV|[p0,p1,p2]=>BE aV p0 p1 p2|_=>none
def wq(L:aX)(p0 p1:PV):Option PV:=HN p0 fun _ _ _ _ _ _ _ _ a b c d e=>so 5 p1 fun _=>Fy p1 0 fun f=>Fy p1 1 fun g=>Fy p1 2 fun h=>Fy p1 3 fun i=>Fy p1 4 fun j=>cO f (cU dM [a,.int .i64 0,.int .i64 31] fun k=>some !k) fun k=>b9 k (cO g (cU dM [b,.int .i64 (-43200),.int .i64 43200] fun k=>some !k) fun k=>some k) fun k=>b9 k (cO h (cU dM [c,.int .i64 0,.int .i64 63] fun k=>some !k) fun k=>some k) fun k=>if k then some (PV.int .i64 2)else if j then gv lJ [.rs 5 e,.int .i64 64,.int .i64 0,.int .i64 3155932800] fun _ k=>if(k !=0)then some (k)else cO (!f) (some (a !=0)) fun k=>b9 k (cO (!g) (some (b !=0)) fun k=>some k) fun k=>b9 k (cO (!h) (some (c !=0)) fun k=>some k) fun k=>b9 k (cO (!i) (some d) fun k=>some k) fun k=>b9 k (cO (!j) (some (decide ((↑e.length:Int)>0))) fun k=>some k) fun k=>if k then some (PV.int .i64 1)else some (PV.int .i64 0)else cO (!f) (some (a !=0)) fun k=>b9 k (cO (!g) (some (b !=0)) fun k=>some k) fun k=>b9 k (cO (!h) (some (c !=0)) fun k=>some k) fun k=>b9 k (cO (!i) (some d) fun k=>some k) fun k=>b9 k (cO (!j) (some (decide ((↑e.length:Int)>0))) fun k=>some k) fun k=>if k then some (PV.int .i64 1)else some (PV.int .i64 0)
def tw:List PV→Option PV|[p0,p1]=>wq aV p0 p1|_=>none
def E6(L:aX)(p0:PV):Option PV:=bP p0 fun a=>if(a==1)then some (acQ true true false false false)else if(a==3)then some (acQ true false false false false)else if(a==4)then some (acQ false false false false true)else if(a==5)then some (acQ false false true true true)else some (acQ false false false false false)
def B8:List PV→Option PV|[p0]=>E6 aV p0|_=>none
def Dc(L:aX)(p0:PV):Option PV:=HN p0 fun a b c d e f g h i j k l m=>cU dM [a,.int .i64 0,.int .i64 7] fun n=>if(!n)then some (PV.int .i64 36)else if decide (b<1)then some (PV.int .i64 2)else cU dM [c,.int .i64 0,.int .i64 3155932800] fun n=>b9 (!n) (cU dM [d,.int .i64 0,.int .i64 3155932800] fun n=>some !n) fun n=>b9 n (some (decide (c≥d))) fun n=>if n then some (PV.int .i64 10)else cU dM [e,.int .i64 1,.int .i64 6] fun n=>if(!n)then some (PV.int .i64 35)else cU dO [.str f] fun n=>if(!n)then some (PV.int .i64 12)else cU cM [g] fun n=>if(!n)then some (PV.int .i64 11)else if decide (h<0)then some (PV.int .i64 2)else eU B8 [e] fun n=>so 5 n fun _=>Fz tw [.agg [a,b,c,d,e,.str f,g,h,i,j,k,.bool l,.rs 5 m],Yk n] fun n=>some (n)
def HO:List PV→Option PV|[p0]=>Dc aV p0|_=>none
def Fk:df (alG):=fun(a,b,c,d,e,f,g,h,i,j,k,l,m,n,o,p,_)=>fun q=>if decide (c<b)then bt a c fun r=>(aZ (r 3)).bind fun s=>cO (s==i) (aD r 1 fun s=>some (s==j)) fun s=>cO s (aD r 2 fun s=>some (s==k)) fun s=>if s then some (PV.aI [c,.bool true])else q (a,b,ay (c+1),d,e,f,g,h,i,j,k,l,m,n,o,p,())
else some (PV.aI [.int .i64 0,.bool false])
def BF(L:aX)(p0 p1:PV):Option PV:=Fj p0 fun _ _ a _ _ _ _ _ _=>HN p1 fun b c d e f g h i j k l m n=>L.run Fk (a,(↑a.length:Int),0,b,c,d,e,f,g,h,i,j,k,l,m,n,())
def GG:List PV→Option PV|[p0,p1]=>BF aV p0 p1|_=>none
def C9(L:aX)(p0:PV):Option PV:=(ah 5 p0).bind fun a=>if 0≤(↑a.length:Int)∧(↑a.length:Int)≤(↑a.length:Int)∧(↑a.length:Int).toNat*32≤ab∧0<32∧0<5 then some (PV.rs 5 (List.take (List.replicate (↑a.length:Int).toNat (PV.agg [.int .i64 0,.int .i64 0,.int .i64 0,.bool false,.bool false])).length a++List.drop a.length (List.replicate (↑a.length:Int).toNat (PV.agg [.int .i64 0,.int .i64 0,.int .i64 0,.bool false,.bool false]))))else none
def Ap:List PV→Option PV|[p0]=>C9 aV p0|_=>none
def qI:df (als):=fun(a,b,c,d,e,f,g,h,i,j,k,l,m,n,o,p,q,r,s,t,u,v,w,_)=>fun x=>if decide (b<a)then CH u b fun y=>eD 5 y 7 fun y=>eU fj [.rs 5 y] fun y=>(ah 5 y).bind fun y=>CH u b fun z=>x (a,ay (b+1),c,d,e,f,g,h,i,j,k,l,m,n,o,p,q,r,s,t,u.set b.toNat (if 8=1 then PV.qg 5 y else PV.agg (z 0::z 1::z 2::z 3::z 4::z 5::z 6::PV.qg 5 y::over [] [])),v,w,())
else eU dL [.rs 6 h] fun z=>(ah 6 z).bind fun z=>some (PV.agg [.rs 4 s,.rs 3 t,.rs 8 (List.map PV.strip u),.rs 5 v,.rs 4 w,.rs 6 z,p,q,r])
def xf(L:aX)(p0:PV):Option PV:=Fj p0 fun a b c d e f g h i=>eU fh [.rs 4 a] fun j=>(ah 4 j).bind fun j=>eU eF [.rs 3 b] fun k=>(ah 3 k).bind fun k=>eU fK [.rs 8 c] fun l=>(ah 8 l).bind fun l=>eU fi [.rs 5 d] fun m=>(ah 5 m).bind fun m=>eU dz [.rs 4 e] fun n=>(ah 4 n).bind fun n=>L.run qI ((↑l.length:Int),0,a,b,c,d,e,f,g,h,i,0,0,0,f,g,h,i,j,k,l,m,n,())
def eh:List PV→Option PV|[p0]=>xf aV p0|_=>none
def gB:df (List PV×List PV×Int×Int×Unit):=fun(a,b,c,d,_)=>fun e=>if decide (d<c)then bt a d fun f=>bt b d fun g=>if jo (Kd.int .i64::[].append (Kd.int .i64::[].append (Kd.int .i64::[].append (Kd.bool::[].append (Kd.bool::[].append []))))) [f 0,f 1,f 2,f 3,f 4]=true∧jo (Kd.int .i64::[].append (Kd.int .i64::[].append (Kd.int .i64::[].append (Kd.bool::[].append (Kd.bool::[].append []))))) [g 0,g 1,g 2,g 3,g 4]then if(!bO [f 0,f 1,f 2,f 3,f 4] [g 0,g 1,g 2,g 3,g 4])then some (PV.bool false)else e (a,b,c,ay (d+1),())else none
else some (PV.bool true)
def jD(L:aX)(p0 p1:PV):Option PV:=(ah 5 p0).bind fun a=>(ah 5 p1).bind fun b=>if((↑a.length:Int) !=(↑b.length:Int))then some (PV.bool false)else L.run gB (a,b,(↑a.length:Int),0,())
def eR:List PV→Option PV|[p0,p1]=>jD aV p0 p1|_=>none
def zq(L:aX)(p0 p1:PV):Option PV:=QV p0 fun a b c d e f g h=>QV p1 fun i j k l m n o p=>b9 (a !=i) (some (b !=j)) fun j=>b9 j (some (c !=k)) fun j=>b9 j (some !d==l) fun j=>if j then some (PV.bool false)else cO (e==m) (some (f==n)) fun j=>cO j (some (g==o)) fun j=>cO j (cU eR [.rs 5 h,.rs 5 p] fun j=>some j) fun j=>some (PV.bool j)
def oY:List PV→Option PV|[p0,p1]=>zq aV p0 p1|_=>none
def nq(L:aX):df (alH):=fun(a,b,c,d,e,f,g,h,i,j,k,l,m,n,o,p,q,r,s,t,u,_)=>fun v=>if decide (b<a)then b9 (decide (b≥(↑e.length:Int))) (some (decide (b≥(↑n.length:Int)))) fun w=>b9 w (bt e b fun w=>bt n b fun x=>cU oY [Oo w,Oo x] fun x=>some !x) fun x=>if x then if(u++[PV.int .i64 b]).length*8≤ab∧0<8 then v (a,ay (b+1),c,d,e,f,g,h,i,j,k,l,m,n,o,p,q,r,s,t,u++[PV.int .i64 b],())else none else v (a,ay (b+1),c,d,e,f,g,h,i,j,k,l,m,n,o,p,q,r,s,t,u,())
else some (PV.rs 1 u)
def sC(L:aX)(p0 p1:PV):Option PV:=Fj p0 fun a b c d e f g h i=>Fj p1 fun j k l m n o p q r=>L.run (nq L) (if(↑l.length:Int)>(↑c.length:Int)then(↑l.length:Int)else(↑c.length:Int),0,a,b,c,d,e,f,g,h,i,j,k,l,m,n,o,p,q,r,[],())
def gR:List PV→Option PV|[p0,p1]=>sC aV p0 p1|_=>none
def Dd(L:aX)(p0:PV):Option PV:=dp 12 p0 (some (PV.int .i64 0)) fun a=>dp 3 (match a.cells[0]? with|some x=>x|none=>.bad) (aD a 1 fun _=>eD 4 a 2 fun _=>eD 3 a 3 fun _=>eD 8 a 4 fun _=>eD 5 a 5 fun _=>eD 4 a 6 fun _=>eD 6 a 7 fun _=>aD a 8 fun _=>aD a 9 fun _=>aD a 10 fun _=>aD a 11 fun b=>some (b)) fun _=>aD a 1 fun _=>eD 4 a 2 fun _=>eD 3 a 3 fun _=>eD 8 a 4 fun _=>eD 5 a 5 fun _=>eD 4 a 6 fun _=>eD 6 a 7 fun _=>aD a 8 fun _=>aD a 9 fun _=>aD a 10 fun _=>aD a 11 fun a=>some (a)
def jQ:List PV→Option PV|[p0]=>Dd aV p0|_=>none
def pc:df (List PV×List PV×Int×Unit):=fun(a,b,c,_)=>fun d=>if decide (c<(↑a.length:Int))then bt a c fun e=>aD e 0 fun e=>bt b c fun f=>aD f 0 fun f=>if(e !=f)then some (PV.bool false)else d (a,b,ay (c+1),())
else some (PV.bool true)
def uM(L:aX)(p0 p1:PV):Option PV:=(ah 1 p0).bind fun a=>(ah 1 p1).bind fun b=>if((↑a.length:Int) !=(↑b.length:Int))then some (PV.bool false)else L.run pc (a,b,0,())
def da:List PV→Option PV|[p0,p1]=>uM aV p0 p1|_=>none
def nC:df (anc):=fun(a,b,c,d,e,f,g,h,i,_)=>fun j=>if decide (a<(↑b.length:Int))then bt b a fun k=>bt f a fun l=>if jo (Kd.str::[].append (Kd.int .i64::[].append (Kd.int .i64::[].append (Kd.int .i64::[].append (Kd.int .i64::[].append (Kd.int .i64::[].append [])))))) [k 0,k 1,k 2,k 3,k 4,k 5]=true∧jo (Kd.str::[].append (Kd.int .i64::[].append (Kd.int .i64::[].append (Kd.int .i64::[].append (Kd.int .i64::[].append (Kd.int .i64::[].append [])))))) [l 0,l 1,l 2,l 3,l 4,l 5]then if(!bO [k 0,k 1,k 2,k 3,k 4,k 5] [l 0,l 1,l 2,l 3,l 4,l 5])then some (PV.bool false)else j (ay (a+1),b,c,d,e,f,g,h,i,())else none
else some (PV.bool true)
def sH(L:aX)(p0 p1:PV):Option PV:=aex p0 fun a b c d=>aex p1 fun e f g h=>b9 ((↑a.length:Int) !=(↑e.length:Int)) (some (b !=f)) fun i=>b9 i (some (c !=g)) fun i=>b9 i (some (d !=h)) fun i=>if i then some (PV.bool false)else L.run nC (0,a,b,c,d,e,f,g,h,())
def kr:List PV→Option PV|[p0,p1]=>sH aV p0 p1|_=>none
def nB:df (List PV×List PV×Int×Unit):=fun(a,b,c,_)=>fun d=>if decide (c<(↑a.length:Int))then bt a c fun e=>bt b c fun f=>if jo (Kd.int .i64::[].append (Kd.int .i64::[].append (Kd.int .i64::[].append (Kd.bool::[].append (Kd.bool::[].append []))))) [e 0,e 1,e 2,e 3,e 4]=true∧jo (Kd.int .i64::[].append (Kd.int .i64::[].append (Kd.int .i64::[].append (Kd.bool::[].append (Kd.bool::[].append []))))) [f 0,f 1,f 2,f 3,f 4]then if(!bO [e 0,e 1,e 2,e 3,e 4] [f 0,f 1,f 2,f 3,f 4])then some (PV.bool false)else d (a,b,ay (c+1),())else none
else some (PV.bool true)
def sG(L:aX)(p0 p1:PV):Option PV:=(ah 5 p0).bind fun a=>(ah 5 p1).bind fun b=>if((↑a.length:Int) !=(↑b.length:Int))then some (PV.bool false)else L.run nB (a,b,0,())
def kq:List PV→Option PV|[p0,p1]=>sG aV p0 p1|_=>none
def pB:df (List PV×List PV×Int×Unit):=fun(a,b,c,_)=>fun d=>if decide (c<(↑a.length:Int))then bt a c fun e=>bt b c fun f=>aD e 0 fun g=>aD f 0 fun h=>b9 (g !=h) (aD e 1 fun h=>aD f 1 fun g=>some (h !=g)) fun g=>b9 g (aD e 2 fun g=>aD f 2 fun h=>some (g !=h)) fun h=>b9 h ((aZ (e 3)).bind fun h=>(aZ (f 3)).bind fun g=>some !h==g) fun g=>b9 g (aD e 4 fun g=>aD f 4 fun h=>some (g !=h)) fun h=>b9 h (Fy e 5 fun h=>Fy f 5 fun g=>some !h==g) fun g=>b9 g (Fy e 6 fun g=>Fy f 6 fun h=>some !g==h) fun h=>b9 h (eD 5 e 7 fun h=>eD 5 f 7 fun f=>cU kq [.rs 5 h,.rs 5 f] fun f=>some !f) fun f=>if f then some (PV.bool false)else d (a,b,ay (c+1),())
else some (PV.bool true)
def u7(L:aX)(p0 p1:PV):Option PV:=(ah 8 p0).bind fun a=>(ah 8 p1).bind fun b=>if((↑a.length:Int) !=(↑b.length:Int))then some (PV.bool false)else L.run pB (a,b,0,())
def jd:List PV→Option PV|[p0,p1]=>u7 aV p0 p1|_=>none
def je:df (aeB):=fun(a,b,c,d,e,f,g,h,i,j,k,l,m,n,o,p,q,r,s,_)=>fun t=>if decide (a<(↑f.length:Int))then bt f a fun u=>bt o a fun v=>if jo (Kd.int .i64::[].append (Kd.int .i64::[].append (Kd.int .i64::[].append (Kd.bool::[].append [])))) [u 0,u 1,u 2,u 3]=true∧jo (Kd.int .i64::[].append (Kd.int .i64::[].append (Kd.int .i64::[].append (Kd.bool::[].append [])))) [v 0,v 1,v 2,v 3]then if(!bO [u 0,u 1,u 2,u 3] [v 0,v 1,v 2,v 3])then some (PV.bool false)else t (ay (a+1),b,c,d,e,f,g,h,i,j,k,l,m,n,o,p,q,r,s,())else none
else cU jd [.rs 8 d,.rs 8 m] fun v=>cO v (cU kr [.agg [.rs 6 g,h,i,j],.agg [.rs 6 p,q,r,s]] fun v=>some v) fun v=>some (PV.bool v)
def jf(L:aX):df (aeB):=fun(a,b,c,d,e,f,g,h,i,j,k,l,m,n,o,p,q,r,s,_)=>fun t=>if decide (a<(↑e.length:Int))then bt e a fun u=>bt n a fun v=>if jo (Kd.int .i64::[].append (Kd.int .i64::[].append (Kd.int .i64::[].append (Kd.int .i64::[].append (Kd.bool::[].append []))))) [u 0,u 1,u 2,u 3,u 4]=true∧jo (Kd.int .i64::[].append (Kd.int .i64::[].append (Kd.int .i64::[].append (Kd.int .i64::[].append (Kd.bool::[].append []))))) [v 0,v 1,v 2,v 3,v 4]then if(!bO [u 0,u 1,u 2,u 3,u 4] [v 0,v 1,v 2,v 3,v 4])then some (PV.bool false)else t (ay (a+1),b,c,d,e,f,g,h,i,j,k,l,m,n,o,p,q,r,s,())else none
else L.run je (0,b,c,d,e,f,g,h,i,j,k,l,m,n,o,p,q,r,s,())
def jg(L:aX):df (aeB):=fun(a,b,c,d,e,f,g,h,i,j,k,l,m,n,o,p,q,r,s,_)=>fun t=>if decide (a<(↑c.length:Int))then bt c a fun u=>bt l a fun v=>if jo (Kd.str::[].append (Kd.int .i64::[].append (Kd.bool::[].append []))) [u 0,u 1,u 2]=true∧jo (Kd.str::[].append (Kd.int .i64::[].append (Kd.bool::[].append []))) [v 0,v 1,v 2]then if(!bO [u 0,u 1,u 2] [v 0,v 1,v 2])then some (PV.bool false)else t (ay (a+1),b,c,d,e,f,g,h,i,j,k,l,m,n,o,p,q,r,s,())else none
else L.run (jf L) (0,b,c,d,e,f,g,h,i,j,k,l,m,n,o,p,q,r,s,())
def pC(L:aX):df (aeB):=fun(a,b,c,d,e,f,g,h,i,j,k,l,m,n,o,p,q,r,s,_)=>fun t=>if decide (a<(↑b.length:Int))then bt b a fun u=>bt k a fun v=>if jo (Kd.str::[].append (Kd.int .i64::[].append (Kd.bool::[].append (Kd.int .i64::[].append [])))) [u 0,u 1,u 2,u 3]=true∧jo (Kd.str::[].append (Kd.int .i64::[].append (Kd.bool::[].append (Kd.int .i64::[].append [])))) [v 0,v 1,v 2,v 3]then if(!bO [u 0,u 1,u 2,u 3] [v 0,v 1,v 2,v 3])then some (PV.bool false)else t (ay (a+1),b,c,d,e,f,g,h,i,j,k,l,m,n,o,p,q,r,s,())else none
else L.run (jg L) (0,b,c,d,e,f,g,h,i,j,k,l,m,n,o,p,q,r,s,())
def BB(L:aX)(p0 p1:PV):Option PV:=Fj p0 fun a b c d e f g h i=>Fj p1 fun j k l m n o p q r=>b9 ((↑a.length:Int) !=(↑j.length:Int)) (some ((↑b.length:Int) !=(↑k.length:Int))) fun s=>b9 s (some ((↑d.length:Int) !=(↑m.length:Int))) fun s=>b9 s (some ((↑e.length:Int) !=(↑n.length:Int))) fun s=>if s then some (PV.bool false)else L.run (pC L) (0,a,b,c,d,e,f,g,h,i,j,k,l,m,n,o,p,q,r,())
def eS:List PV→Option PV|[p0,p1]=>BB aV p0 p1|_=>none
def qJ(L:aX):df (alI):=fun(a,b,c,d,e,f,g,h,i,j,k,l,m,n,o,p,q,r,s,t,_)=>fun u=>b9 (decide (a<(↑d.length:Int))) (some (decide (a<(↑m.length:Int)))) fun v=>if v then b9 (decide (a≥(↑d.length:Int))) (some (decide (a≥(↑m.length:Int)))) fun v=>b9 v (if 0≤a∧a≤ay (a+1)∧ay (a+1)≤(↑d.length:Int)∧8=8∧8≠0 then if 0≤a∧a≤ay (a+1)∧ay (a+1)≤(↑m.length:Int)∧8=8∧8≠0 then cU jd [.rs 8 (List.drop a.toNat (List.take (ay (a+1)).toNat d)),.rs 8 (List.drop a.toNat (List.take (ay (a+1)).toNat m))] fun v=>some !v else none else none) fun v=>if v then if(t++[PV.int .i64 a]).length*8≤ab∧0<8 then u (ay (a+1),b,c,d,e,f,g,h,i,j,k,l,m,n,o,p,q,r,s,t++[PV.int .i64 a],())else none else u (ay (a+1),b,c,d,e,f,g,h,i,j,k,l,m,n,o,p,q,r,s,t,())else some (PV.rs 1 t)
def xl(L:aX)(p0 p1:PV):Option PV:=Fj p0 fun a b c d e f g h i=>Fj p1 fun j k l m n o p q r=>L.run (qJ L) (0,a,b,c,d,e,f,g,h,i,j,k,l,m,n,o,p,q,r,[],())
def gG:List PV→Option PV|[p0,p1]=>xl aV p0 p1|_=>none
def zs(L:aX)(p0:PV)(p1:PV)(p2:PV):Option PV:=(Ab.asAgg 3 p0).bind fun _=>(Ab.asInt .i64 (cell p0 0)).bind fun a=>(ah 2 (cell p0 1)).bind fun b=>(ah 13 (cell p0 2)).bind fun _=>(Ab.asInt .i64 p1).bind fun c=>(Ab.asInt .i64 p2).bind fun d=>(bif decide (c<0)then some true else some (decide (c≥(↑b.length:Int)))).bind fun e=>if e then some (PV.bool false)else(og b c).bind fun e=>(Ab.asInt .i64 (cell e 0)).bind fun e=>(bif decide (e<0)then some true else(bif decide (d>e)then some (decide (IntKind.u64.wrap (IntKind.u64.wrap d-IntKind.u64.wrap e)>IntKind.u64.wrap a))else some false).bind fun e=>some e).bind fun e=>some (PV.bool e)
def kQ:List PV→Option PV|[p0,p1,p2]=>zs aV p0 p1 p2|_=>none
def sD(L:aX):df (alJ):=fun(a,b,c,d,e,f,g,h,i,j,k,l,m,n,o,_)=>fun p=>if decide (a<(↑l.length:Int))then cU kQ [.agg [k,.rs 2 l,.rs 13 m],a,n] fun q=>if q then if(o++[PV.int .i64 a]).length*8≤ab∧0<8 then p (ay (a+1),b,c,d,e,f,g,h,i,j,k,l,m,n,o++[PV.int .i64 a],())else none else p (ay (a+1),b,c,d,e,f,g,h,i,j,k,l,m,n,o,())
else some (PV.rs 1 o)
def zt(L:aX)(p0:PV):Option PV:=acP p0 fun a b c d e f g h i j k l m=>L.run (sD L) (0,a,b,c,d,e,f,g,h,i,j,k,l,m,[],())
def iY:List PV→Option PV|[p0]=>zt aV p0|_=>none
def yJ(L:aX)(p0 p1:PV):Option PV:=HN p0 fun _ _ _ _ _ a b c _ _ _ _ _=>HN p1 fun _ _ _ _ _ d e f _ _ _ _ _=>cO (a==d) (some (b==e)) fun e=>cO e (some (c==f)) fun e=>some (PV.bool e)
def vw:List PV→Option PV|[p0,p1]=>yJ aV p0 p1|_=>none
def De(L:aX)(p0 p1 p2:PV):Option PV:=ah8 p0 fun a b c=>HN p1 fun d _ e f _ _ _ _ _ _ _ _ _=>bP p2 fun g=>cO (decide (e≤g)) (some (decide (f>g))) fun f=>cO f (cU kQ [.agg [a,.rs 2 b,.rs 13 c],d,g] fun f=>some !f) fun f=>some (PV.bool f)
def sZ:List PV→Option PV|[p0,p1,p2]=>De aV p0 p1 p2|_=>none
def HP:df (alK):=fun(a,b,c,d,e,f,g,h,i,j,k,l,m,n,o,p,q,r,_)=>fun s=>if decide (b<(↑e.length:Int))then bt e b fun t=>aD t 0 fun u=>bP f fun v=>cO (decide (u<v)) (cU vw [Hz t,.agg [f,g,h,i,j,k,l,m,n,o,p,q,r]] fun v=>some v) fun v=>cO v (cU sZ [.agg [c,.rs 2 d,.rs 13 e],Hz t,a] fun v=>some v) fun v=>if v then some (PV.bool false)else s (a,ay (b+1),c,d,e,f,g,h,i,j,k,l,m,n,o,p,q,r,())
else cU sZ [.agg [c,.rs 2 d,.rs 13 e],.agg [f,g,h,i,j,k,l,m,n,o,p,q,r],a] fun v=>some (PV.bool v)
def E7(L:aX)(p0 p1 p2:PV):Option PV:=ah8 p0 fun a b c=>bP p1 fun d=>bP p2 fun e=>bt c d fun d=>L.run HP (e,0,a,b,c,d 0,d 1,d 2,d 3,d 4,d 5,d 6,d 7,d 8,d 9,d 10,d 11,d 12,())
def B9:List PV→Option PV|[p0,p1,p2]=>E7 aV p0 p1 p2|_=>none
def E8(L:aX)(p0 p1:PV):Option PV:=HN p0 fun _ a _ _ _ b c d _ _ _ _ _=>HN p1 fun _ e _ _ _ f g h _ _ _ _ _=>if(!b==f)then some (PV.bool (Op.bytesLess b f))else if(c !=g)then some (PV.bool (decide (c<g)))else if(d !=h)then some (PV.bool (decide (d<h)))else some (PV.bool (decide (a<e)))
def Ca:List PV→Option PV|[p0,p1]=>E8 aV p0 p1|_=>none
def HQ(ant:afx→Option PV):df (alL):=fun(a,b,c,d,e,f,g,h,i,j,k,l,m,n,o,p,q,r,s,t,_)=>fun u=>cO (decide (c>0)) (if ax (ay (c-1)) g.length then g[(ay (c-1)).toNat]?.bind fun v=>cU Ca [.agg [h,i,j,k,l,m,n,o,p,q,r,s,t],Hz v] fun v=>some v else none) fun v=>if v then if ax (ay (c-1)) g.length then g[(ay (c-1)).toNat]?.bind fun v=>CH g c fun _=>u (a,b,ay (c-1),d,e,f,g.set c.toNat (Hz v),h,i,j,k,l,m,n,o,p,q,r,s,t,())else none else CH g c fun _=>ant (a,ay (b+1),d,e,f,g.set c.toNat (PV.agg [h,i,j,k,l,m,n,o,p,q,r,s,t]),())
def Al(L:aX):df (afx):=fun(a,b,c,d,e,f,_)=>fun g=>if decide (b<(↑e.length:Int))then cU B9 [.agg [c,.rs 2 d,.rs 13 e],b,a] fun h=>if(!h)then g (a,ay (b+1),c,d,e,f,())else bt e b fun h=>if(f++[Hz h]).length*128≤ab∧0<128 then L.run (HQ g) (a,b,(↑f.length:Int),c,d,e,f++[Hz h],h 0,h 1,h 2,h 3,h 4,h 5,h 6,h 7,h 8,h 9,h 10,h 11,h 12,())else none
else some (PV.rs 13 f)
def zr(L:aX)(p0 p1:PV):Option PV:=ah8 p0 fun a b c=>bP p1 fun d=>L.run (Al L) (d,0,a,b,c,[],())
def oZ:List PV→Option PV|[p0,p1]=>zr aV p0 p1|_=>none
def ve(L:aX)(p0 p1:PV):Option PV:=(ah 4 p0).bind fun a=>bP p1 fun b=>if decide ((↑a.length:Int)>512)then some (PV.aI [.int .i64 0,.int .i64 5])else gv jc [.rs 4 a,b] fun b a=>some (PV.aI [b,a])
def jl:List PV→Option PV|[p0,p1]=>ve aV p0 p1|_=>none
def uK(L:aX)(p0 p1:PV):Option PV:=(ah 4 p0).bind fun a=>bP p1 fun b=>if decide (b>64)then some (PV.aI [.rs 4 [],.int .i64 5])else gv jl [.rs 4 a,b] fun _ c=>if(c !=0)then some (PV.aI [.rs 4 [],c])else eU eN [.rs 4 a,.int .i64 (if 0>b then 0 else b)] fun c=>(ah 4 c).bind fun c=>some (PV.aI [.rs 4 c,.int .i64 0])
def lB:List PV→Option PV|[p0,p1]=>uK aV p0 p1|_=>none
def zL(L:aX)(p0:PV):Option PV:=bP p0 fun a=>cU cM [a] fun b=>if(!b)then some (PV.aI [.int .i64 0,.bool false])else some (PV.aI [((ay (a+5)).tmod 7),.bool true])
def pI:List PV→Option PV|[p0]=>zL aV p0|_=>none
def nJ(L:aX):df (ane):=fun(a,b,c,d,e,f,g,h,i,j,k,l,m,n,o,p,_)=>fun q=>if decide (f<e)then bt d f fun r=>aD r 0 fun s=>b9 (s !=a) (aD r 1 fun s=>some (s !=b)) fun s=>if s then q (a,b,c,d,e,ay (f+1),g,h,i,j,k,l,m,n,o,p,())else Fy r 2 fun s=>if s then some (PV.int .i64 2)else some (PV.int .i64 3)
else b9 (c==3) (bP o fun s=>some (decide (b<s))) fun s=>b9 s (bP p fun s=>some (decide (b>s))) fun s=>if s then some (c)else HM pI [b] fun s _=>if ax s 7∧0<1 then[g,h,i,j,k,l,m,n,o,p][1+s.toNat*1]?.bind fun s=>mcb s fun s=>if s then some (PV.int .i64 1)else some (PV.int .i64 4)else none
def sK(L:aX)(p0 p1 p2 p3:PV):Option PV:=(ah 10 p0).bind fun a=>(ah 3 p1).bind fun b=>bP p2 fun c=>bP p3 fun d=>b9 (decide (c<0)) (some (decide (c≥(↑a.length:Int)))) fun e=>b9 e (cU cM [d] fun e=>some !e) fun e=>if e then some (PV.int .i64 0)else bt a c fun e=>L.run (nJ L) (c,d,5,b,(↑b.length:Int),0,e 0,e 1,e 2,e 3,e 4,e 5,e 6,e 7,e 8,e 9,())
def kv:List PV→Option PV|[p0,p1,p2,p3]=>sK aV p0 p1 p2 p3|_=>none
def sL(L:aX)(p0 p1 p2 p3:PV):Option PV:=(ah 10 p0).bind fun a=>(ah 3 p1).bind fun b=>bP p2 fun c=>bP p3 fun d=>Fz kv [.rs 10 a,.rs 3 b,c,d] fun d=>b9 (d==1) (some (d==2)) fun d=>some (PV.bool d)
def gX:List PV→Option PV|[p0,p1,p2,p3]=>sL aV p0 p1 p2 p3|_=>none
def xL(L:aX):df (aia):=fun(a,b,c,d,e,_)=>fun f=>if decide (d<c)then bt b d fun g=>aD g 1 fun h=>aD g 2 fun i=>if(e++[PV.agg [g 0,(ay (h+a)),(ay (i+a)),g 3,g 4]]).length*32≤ab∧0<32 then f (a,b,c,ay (d+1),e++[PV.agg [g 0,(ay (h+a)),(ay (i+a)),g 3,g 4]],())else none
else some (PV.rs 5 e)
def DR(L:aX)(p0 p1:PV):Option PV:=(ah 5 p0).bind fun a=>bP p1 fun b=>L.run (xL L) (b,a,(↑a.length:Int),0,[],())
def gY:List PV→Option PV|[p0,p1]=>DR aV p0 p1|_=>none
def pG(L:aX)(p0:PV):Option PV:=bP p0 fun a=>b9 (decide (a< -2305843009213693952)) (some (decide (a>2305843009213693952))) fun a=>some (PV.bool a)
def eg:List PV→Option PV|[p0]=>pG aV p0|_=>none
def vf(L:aX)(p0 p1 p2:PV):Option PV:=bP p0 fun a=>bP p1 fun b=>bP p2 fun c=>cO (ay (ay (ay (a.fdiv (2^min (Int.toNat 32) IntKind.i64.bits)-b.fdiv (2^min (Int.toNat 32) IntKind.i64.bits))+c.fdiv (2^min (Int.toNat 32) IntKind.i64.bits))+(ay (ay (ay (↑(BitVec.ofInt IntKind.i64.bits a&&&BitVec.ofInt IntKind.i64.bits 4294967295).toNat:Int)-ay (↑(BitVec.ofInt IntKind.i64.bits b&&&BitVec.ofInt IntKind.i64.bits 4294967295).toNat:Int))+ay (↑(BitVec.ofInt IntKind.i64.bits c&&&BitVec.ofInt IntKind.i64.bits 4294967295).toNat:Int))).fdiv (2^min (Int.toNat 32) IntKind.i64.bits))==0) (some (decide (ay (↑(BitVec.ofInt IntKind.i64.bits (ay (ay (ay (ay (a.fdiv (2^min (Int.toNat 32) IntKind.i64.bits)-b.fdiv (2^min (Int.toNat 32) IntKind.i64.bits))+c.fdiv (2^min (Int.toNat 32) IntKind.i64.bits))+(ay (ay (ay (↑(BitVec.ofInt IntKind.i64.bits a&&&BitVec.ofInt IntKind.i64.bits 4294967295).toNat:Int)-ay (↑(BitVec.ofInt IntKind.i64.bits b&&&BitVec.ofInt IntKind.i64.bits 4294967295).toNat:Int))+ay (↑(BitVec.ofInt IntKind.i64.bits c&&&BitVec.ofInt IntKind.i64.bits 4294967295).toNat:Int))).fdiv (2^min (Int.toNat 32) IntKind.i64.bits))*2^min (Int.toNat 32) IntKind.i64.bits))|||BitVec.ofInt IntKind.i64.bits (ay (↑(BitVec.ofInt IntKind.i64.bits (ay (ay (ay (↑(BitVec.ofInt IntKind.i64.bits a&&&BitVec.ofInt IntKind.i64.bits 4294967295).toNat:Int)-ay (↑(BitVec.ofInt IntKind.i64.bits b&&&BitVec.ofInt IntKind.i64.bits 4294967295).toNat:Int))+ay (↑(BitVec.ofInt IntKind.i64.bits c&&&BitVec.ofInt IntKind.i64.bits 4294967295).toNat:Int)))&&&BitVec.ofInt IntKind.i64.bits 4294967295).toNat:Int))).toNat:Int)≤172800))) fun d=>some (PV.aI [(ay (↑(BitVec.ofInt IntKind.i64.bits (ay (ay (ay (ay (a.fdiv (2^min (Int.toNat 32) IntKind.i64.bits)-b.fdiv (2^min (Int.toNat 32) IntKind.i64.bits))+c.fdiv (2^min (Int.toNat 32) IntKind.i64.bits))+(ay (ay (ay (↑(BitVec.ofInt IntKind.i64.bits a&&&BitVec.ofInt IntKind.i64.bits 4294967295).toNat:Int)-ay (↑(BitVec.ofInt IntKind.i64.bits b&&&BitVec.ofInt IntKind.i64.bits 4294967295).toNat:Int))+ay (↑(BitVec.ofInt IntKind.i64.bits c&&&BitVec.ofInt IntKind.i64.bits 4294967295).toNat:Int))).fdiv (2^min (Int.toNat 32) IntKind.i64.bits))*2^min (Int.toNat 32) IntKind.i64.bits))|||BitVec.ofInt IntKind.i64.bits (ay (↑(BitVec.ofInt IntKind.i64.bits (ay (ay (ay (↑(BitVec.ofInt IntKind.i64.bits a&&&BitVec.ofInt IntKind.i64.bits 4294967295).toNat:Int)-ay (↑(BitVec.ofInt IntKind.i64.bits b&&&BitVec.ofInt IntKind.i64.bits 4294967295).toNat:Int))+ay (↑(BitVec.ofInt IntKind.i64.bits c&&&BitVec.ofInt IntKind.i64.bits 4294967295).toNat:Int)))&&&BitVec.ofInt IntKind.i64.bits 4294967295).toNat:Int))).toNat:Int)),.bool d])
def lU:List PV→Option PV|[p0,p1,p2]=>vf aV p0 p1 p2|_=>none
def sM(L:aX)(p0 p1 p2:PV):Option PV:=bP p0 fun a=>bP p1 fun b=>bP p2 fun c=>cU eg [a] fun d=>b9 d (cU eg [b] fun d=>some d) fun d=>b9 d (cU eg [c] fun d=>some d) fun d=>if d then HM lU [a,b,c] fun d e=>some (PV.aI [d,.bool e])else cO (decide (ay (ay (a-b)+c)≥0)) (some (decide (ay (ay (a-b)+c)≤172800))) fun e=>some (PV.aI [(ay (ay (a-b)+c)),.bool e])
def hU:List PV→Option PV|[p0,p1,p2]=>sM aV p0 p1 p2|_=>none
def dG:df (Int×Int×Int×Int×List PV×Unit):=fun(a,b,c,d,e,_)=>fun f=>if decide (d<c)then CH e d fun g=>aD g 1 fun g=>HM hU [g,b,a] fun g h=>CH e d fun i=>if ax d (e.set d.toNat (PV.agg (i 0::PV.int .i64 g::over [] [i 2,i 3,i 4]))).length then(e.set d.toNat (PV.agg (i 0::PV.int .i64 g::over [] [i 2,i 3,i 4])))[d.toNat]?.bind fun j=>aD j 2 fun j=>HM hU [j,b,a] fun j k=>if ax d (e.set d.toNat (PV.agg (i 0::PV.int .i64 g::over [] [i 2,i 3,i 4]))).length then(e.set d.toNat (PV.agg (i 0::PV.int .i64 g::over [] [i 2,i 3,i 4])))[d.toNat]?.bind fun l=>b9 (!h) (some !k) fun k=>if k then some (PV.aI [.rs 5 [],.int .i64 10])else f (a,b,c,ay (d+1),(e.set d.toNat (PV.agg (i 0::PV.int .i64 g::over [] [i 2,i 3,i 4]))).set d.toNat (PV.agg (l 0::l 1::PV.int .i64 j::over [] [l 3,l 4])),())else none else none
else some (PV.aI [.rs 5 e,.int .i64 0])
def mS(L:aX)(p0 p1:PV):Option PV:=Ym p0 fun _ _ _ _ a=>bP p1 fun b=>if((↑a.length:Int)==0)then some (PV.aI [.rs 5 [],.int .i64 16])else bt a 0 fun c=>aD c 2 fun c=>if 0≤(↑a.length:Int)∧(↑a.length:Int)≤(↑a.length:Int)∧(↑a.length:Int).toNat*32≤ab∧0<32∧0<5 then L.run dG (b,c,(↑(List.take (List.replicate (↑a.length:Int).toNat (PV.agg [.int .i64 0,.int .i64 0,.int .i64 0,.bool false,.bool false])).length a++List.drop a.length (List.replicate (↑a.length:Int).toNat (PV.agg [.int .i64 0,.int .i64 0,.int .i64 0,.bool false,.bool false]))).length:Int),0,List.take (List.replicate (↑a.length:Int).toNat (PV.agg [.int .i64 0,.int .i64 0,.int .i64 0,.bool false,.bool false])).length a++List.drop a.length (List.replicate (↑a.length:Int).toNat (PV.agg [.int .i64 0,.int .i64 0,.int .i64 0,.bool false,.bool false])),())else none
def cq:List PV→Option PV|[p0,p1]=>mS aV p0 p1|_=>none
def sN(L:aX)(p0:PV):Option PV:=QW p0 fun _ a b c=>cO (decide (a≥0)) (some (decide (a<b))) fun a=>cO a (some (decide (b≤172800))) fun a=>cO a (some (decide (c≥1))) fun a=>cO a (some (decide (c≤86400))) fun a=>some (PV.bool a)
def hZ:List PV→Option PV|[p0]=>sN aV p0|_=>none
def dV(Fa:alq→Option PV):df (anf):=fun(a,b,c,d,e,f,g,h,i,j,k,l,_)=>fun m=>cO (decide (b>0)) (if ax (ay (b-1)) l.length then l[(ay (b-1)).toNat]?.bind fun n=>aD n 0 fun n=>some (decide (n>a))else none) fun n=>if n then if ax (ay (b-1)) l.length then l[(ay (b-1)).toNat]?.bind fun n=>aD n 0 fun n=>CH l b fun _=>m (a,ay (b-1),c,d,e,f,g,h,i,j,k,l.set b.toNat (PV.int .i64 n),())else none else CH l b fun _=>bP k fun n=>Fa (ay (c+n),d,e,f,g,h,i,j,k,l.set b.toNat (PV.int .i64 a),())
def fT(L:aX)(sW:aia→Option PV):df (alq):=fun(a,b,c,d,e,f,g,h,i,j,_)=>fun k=>bP h fun l=>if decide (a<l)then if(j++[PV.int .i64 a]).length*8≤ab∧0<8 then L.run (dV k) (a,(↑j.length:Int),a,b,c,d,e,f,g,h,i,j++[PV.int .i64 a],())else none else sW (b,c,d,ay (e+1),j,())
def jG(L:aX):df (aia):=fun(a,b,c,d,e,_)=>fun f=>if decide (d<c)then bt b d fun g=>aD g 0 fun h=>if(h !=a)then f (a,b,c,ay (d+1),e,())else cU hZ [mE g] fun h=>if(!h)then f (a,b,c,ay (d+1),e,())else aD g 1 fun h=>L.run (fT L f) (h,a,b,c,d,g 0,g 1,g 2,g 3,e,())
else some (PV.rs 1 e)
def mf(L:aX)(p0 p1:PV):Option PV:=(ah 4 p0).bind fun a=>bP p1 fun b=>L.run (jG L) (b,a,(↑a.length:Int),0,[],())
def eH:List PV→Option PV|[p0,p1]=>mf aV p0 p1|_=>none
def ke:df (Int×List PV×Int×Int×Unit):=fun(a,b,c,d,_)=>fun e=>if decide (d<c)then bt b d fun f=>aD f 0 fun f=>if(f==a)then some (PV.bool true)else e (a,b,c,ay (d+1),())
else some (PV.bool false)
def nI(L:aX)(p0 p1:PV):Option PV:=(ah 4 p0).bind fun a=>bP p1 fun b=>L.run ke (b,a,(↑a.length:Int),0,())
def cV:List PV→Option PV|[p0,p1]=>nI aV p0 p1|_=>none
def xM:df (List PV×List PV×Int×Int×Unit):=fun(a,b,c,d,_)=>fun e=>if decide (d<c)then bt b d fun f=>bt a d fun g=>if jo (Kd.int .i64::[].append (Kd.int .i64::[].append (Kd.int .i64::[].append (Kd.bool::[].append (Kd.bool::[].append []))))) [f 0,f 1,f 2,f 3,f 4]=true∧jo (Kd.int .i64::[].append (Kd.int .i64::[].append (Kd.int .i64::[].append (Kd.bool::[].append (Kd.bool::[].append []))))) [g 0,g 1,g 2,g 3,g 4]then if(!bO [f 0,f 1,f 2,f 3,f 4] [g 0,g 1,g 2,g 3,g 4])then some (PV.bool false)else e (a,b,c,ay (d+1),())else none
else some (PV.bool true)
def DS(L:aX)(p0 p1:PV):Option PV:=(ah 5 p0).bind fun a=>(ah 5 p1).bind fun b=>if((↑a.length:Int) !=(↑b.length:Int))then some (PV.bool false)else L.run xM (b,a,(↑a.length:Int),0,())
def tQ:List PV→Option PV|[p0,p1]=>DS aV p0 p1|_=>none
def Gn(L:aX)(p0 p1:PV):Option PV:=QV p0 fun a b c d e f g h=>QV p1 fun i j k l m n o p=>cO (a==i) (some (b==j)) fun j=>cO j (some (c==k)) fun j=>cO j (some (d==l)) fun j=>cO j (some (e==m)) fun j=>cO j (some (f==n)) fun j=>cO j (some (g==o)) fun j=>cO j (cU tQ [.rs 5 h,.rs 5 p] fun j=>some j) fun j=>some (PV.bool j)
def sg:List PV→Option PV|[p0,p1]=>Gn aV p0 p1|_=>none
def lS:df (alu):=fun(a,b,c,d,e,f,g,h,i,j,k,l,m,n,o,p,q,r,s,t,u)=>fun v=>if decide (d<c)then bt b d fun w=>aD w 0 fun w=>On cq [.agg [n,o,p,q,r],w] fun w _=>eU gY [.rs 5 w,(ay (a*86400))] fun w=>(ah 5 w).bind fun w=>cU sg [Lc s t d u.2.1 u.2.2.1 u.2.2.2.1 u.2.2.2.2.1 w,Lc e f g h i j k l] fun x=>if(!!x)then some (PV.bool x)else v (a,b,c,ay (d+1),e,f,g,h,i,j,k,l,x,n,o,p,q,r,s,t,d,u.2.1,u.2.2.1,u.2.2.2.1,u.2.2.2.2.1,w,())
else some (PV.bool m)
def xD(L:aX)(p0 p1:PV):Option PV:=oc p0 fun _ _ a b c d _ _ _ _ _ _ _=>QV p1 fun e f g h i j k l=>b9 (decide (e<0)) (some (decide (e≥(↑c.length:Int)))) fun m=>b9 m (cU cM [f] fun m=>some !m) fun m=>if m then some (PV.bool false)else bt c e fun m=>aD m 2 fun m=>cU gX [.rs 10 a,.rs 3 b,m,f] fun m=>if(!m)then some (PV.bool false)else bt c e fun m=>(aZ (m 0)).bind fun c=>aD m 1 fun b=>Fy m 3 fun a=>cU cV [.rs 4 d,e] fun n=>if(!n)then eD 5 m 4 fun n=>eU gY [.rs 5 n,(ay (f*86400))] fun n=>(ah 5 n).bind fun n=>cU sg [.agg [e,f,.int .i64 0,.str c,b,.bool a,.bool false,.rs 5 n],Lc e f g h i j k l] fun n=>some (PV.bool n)else eU eH [.rs 4 d,e] fun n=>(ah 1 n).bind fun n=>L.run lS (f,n,(↑n.length:Int),0,e,f,g,h,i,j,k,l,false,m 0,m 1,m 2,m 3,m 4,e,f,0,c,b,a,false,[],())
def jT:List PV→Option PV|[p0,p1]=>xD aV p0 p1|_=>none
def xN:df (alv):=fun(a,b,c,d,e,f,g,h,i,j,k,l,m,n,o,p,q,_)=>fun r=>if decide (c<b)then bt a c fun s=>cU jT [vR d e f g h i j k l m n o p,Oo s] fun t=>if(!t)then some (PV.aI [PV.od,.int .i64 9])else aD s 0 fun t=>aD s 1 fun u=>aD s 2 fun s=>(Ab.asInt .i64 (bS (PV.agg [t,u,s]) (PV.int .i64 0) q)).bind fun _=>if ml (PV.agg [t,u,s]) q then some (PV.aI [PV.od,.int .i64 6])else r (a,b,ay (c+1),d,e,f,g,h,i,j,k,l,m,n,o,p,dd (PV.agg [t,u,s]) (PV.int .i64 c) q,())
else some (PV.aI [PV.rm 253 (List.map (fun x=>x.fst) q) (List.map (fun x=>x.snd) q),.int .i64 0])
def DT(L:aX)(p0 p1:PV):Option PV:=oc p0 fun a b c d e f g h i j k l m=>(ah 8 p1).bind fun n=>L.run xN (n,(↑n.length:Int),0,a,b,c,d,e,f,g,h,i,j,k,l,m,[],())
def tR:List PV→Option PV|[p0,p1]=>DT aV p0 p1|_=>none
def kW:df (Int×List PV×Int×Int×Unit):=fun(a,b,c,d,_)=>fun e=>if decide (d<c)then bt b d fun f=>cO (decide (d>0)) (aD f 0 fun g=>some (g==a)) fun g=>cO g (Fy f 4 fun g=>some g) fun g=>if g then some (d)else e (a,b,c,ay (d+1),())
else some (PV.int .i64 (-1))
def pH(L:aX)(p0 p1:PV):Option PV:=(ah 5 p0).bind fun a=>bP p1 fun b=>L.run kW (b,a,(↑a.length:Int),0,())
def iP:List PV→Option PV|[p0,p1]=>pH aV p0 p1|_=>none
def mi:df (ank):=fun(a,b,c,d,e,_)=>fun f=>if decide (e<d)then bt c e fun g=>cO (decide (ay (e+1)<(↑a.length:Int))) (aD g 0 fun h=>some (h==b)) fun h=>cO h (Fy g 3 fun h=>some h) fun h=>if h then some (e)else f (a,b,c,d,ay (e+1),())
else some (PV.int .i64 (-1))
def qS(L:aX)(p0 p1:PV):Option PV:=(ah 5 p0).bind fun a=>bP p1 fun b=>L.run mi (a,b,a,(↑a.length:Int),0,())
def jJ:List PV→Option PV|[p0,p1]=>qS aV p0 p1|_=>none
end
end Go.Ab
