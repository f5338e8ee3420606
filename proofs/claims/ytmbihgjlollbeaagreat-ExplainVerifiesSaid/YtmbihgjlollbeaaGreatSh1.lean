import Derived.Test.YtmbihgjlollbeaaGreatAbSortK
import Derived.Test.YtmbihgjlollbeaaGreatAbPop
set_option linter.all false
set_option maxHeartbeats 4000000
namespace Go.Ab
noncomputable section
abbrev cG(T:Type):=T→(T→Option PV)→Option PV
structure eK(R:Type)(n:Nat)
instance {R:Type}:CoeFun (eK R 0) (fun _=>(List PV→Option PV)→List PV→(Int→Bool→Option R)→Option R):=⟨fun _=>fun f l k=>(f l).bind fun r=>(cn 2 r).bind fun vs=>(Ab.asInt .i64 (vs.getD 0 .bad)).bind fun v0=>(Ab.asBool (vs.getD 1 .bad)).bind fun v1=>k v0 v1⟩
variable{R:Type}
abbrev MU:eK R 0:=⟨⟩
instance {R:Type}:CoeFun (eK R 1) (fun _=>(List PV→Option PV)→List PV→(Int→Int→Option R)→Option R):=⟨fun _=>fun f l k=>(f l).bind fun r=>(cn 2 r).bind fun vs=>(Ab.asInt .i64 (vs.getD 0 .bad)).bind fun v0=>(Ab.asInt .i64 (vs.getD 1 .bad)).bind fun v1=>k v0 v1⟩
abbrev fC:eK R 1:=⟨⟩
instance {R:Type}:CoeFun (eK R 2) (fun _=>(List PV→Option PV)→List PV→(List PV→Int→Option R)→Option R):=⟨fun _=>fun f l k=>(f l).bind fun r=>(cn 2 r).bind fun vs=>(ao 4 (vs.getD 0 .bad)).bind fun v0=>(Ab.asInt .i64 (vs.getD 1 .bad)).bind fun v1=>k v0 v1⟩
abbrev apk:eK R 2:=⟨⟩
instance {R:Type}:CoeFun (eK R 3) (fun _=>(List PV→Option PV)→List PV→(List PV→Int→Option R)→Option R):=⟨fun _=>fun f l k=>(f l).bind fun r=>(cn 2 r).bind fun vs=>(ao 5 (vs.getD 0 .bad)).bind fun v0=>(Ab.asInt .i64 (vs.getD 1 .bad)).bind fun v1=>k v0 v1⟩
abbrev Qy:eK R 3:=⟨⟩
instance {R:Type}:CoeFun (eK R 4) (fun _=>(List PV→Option PV)→List PV→(Bytes→Int→Option R)→Option R):=⟨fun _=>fun f l k=>(f l).bind fun r=>(cn 2 r).bind fun vs=>(aO (vs.getD 0 .bad)).bind fun v0=>(Ab.asInt .i64 (vs.getD 1 .bad)).bind fun v1=>k v0 v1⟩
abbrev amp:eK R 4:=⟨⟩
instance {R:Type}:CoeFun (eK R 5) (fun _=>(List PV→Option PV)→List PV→(Int→Int→Bool→Option R)→Option R):=⟨fun _=>fun f l k=>(f l).bind fun r=>(cn 3 r).bind fun vs=>(Ab.asInt .i64 (vs.getD 0 .bad)).bind fun v0=>(Ab.asInt .i64 (vs.getD 1 .bad)).bind fun v1=>(Ab.asBool (vs.getD 2 .bad)).bind fun v2=>k v0 v1 v2⟩
abbrev apl:eK R 5:=⟨⟩
instance {R:Type}:CoeFun (eK R 6) (fun _=>(List PV→Option PV)→List PV→(Int→Int→Int→Option R)→Option R):=⟨fun _=>fun f l k=>(f l).bind fun r=>(cn 3 r).bind fun vs=>(Ab.asInt .i64 (vs.getD 0 .bad)).bind fun v0=>(Ab.asInt .i64 (vs.getD 1 .bad)).bind fun v1=>(Ab.asInt .i64 (vs.getD 2 .bad)).bind fun v2=>k v0 v1 v2⟩
abbrev abv:eK R 6:=⟨⟩
instance:CoeFun (eK Unit 7) (fun _=>PV→PV):=⟨fun _=>fun p=>.agg [cell p 0,cell p 1,cell p 2]⟩
abbrev l9:eK Unit 7:=⟨⟩
instance:CoeFun (eK Unit 8) (fun _=>PV→PV):=⟨fun _=>fun p=>.agg [cell p 0,cell p 1,cell p 2,cell p 3]⟩
abbrev nL:eK Unit 8:=⟨⟩
instance:CoeFun (eK Unit 9) (fun _=>PV→PV):=⟨fun _=>fun p=>.agg [cell p 0,cell p 1,cell p 2,cell p 3,cell p 4]⟩
abbrev Tj:eK Unit 9:=⟨⟩
instance:CoeFun (eK Unit 10) (fun _=>PV→PV):=⟨fun _=>fun p=>.agg [cell p 0,cell p 1,cell p 2,cell p 3,cell p 4,cell p 5]⟩
abbrev af1:eK Unit 10:=⟨⟩
instance:CoeFun (eK Unit 11) (fun _=>PV→PV):=⟨fun _=>fun p=>.agg [cell p 0,cell p 1,cell p 2,cell p 3,cell p 4,cell p 5,cell p 6]⟩
abbrev VU:eK Unit 11:=⟨⟩
instance:CoeFun (eK Unit 12) (fun _=>PV→PV):=⟨fun _=>fun p=>.agg [cell p 0,cell p 1,cell p 2,cell p 3,cell p 4,cell p 5,cell p 6,cell p 7]⟩
abbrev apm:eK Unit 12:=⟨⟩
instance:CoeFun (eK Unit 13) (fun _=>PV→PV):=⟨fun _=>fun p=>.agg [cell p 0,cell p 1,cell p 2,cell p 3,cell p 4,cell p 5,cell p 6,cell p 7,cell p 8]⟩
abbrev Cv:eK Unit 13:=⟨⟩
instance:CoeFun (eK Unit 14) (fun _=>PV→PV):=⟨fun _=>fun p=>.agg [cell p 0,cell p 1,cell p 2,cell p 3,cell p 4,cell p 5,cell p 6,cell p 7,cell p 8,cell p 9,cell p 10,cell p 11,cell p 12]⟩
abbrev af2:eK Unit 14:=⟨⟩
instance:CoeFun (eK Unit 15) (fun _=>PV→PV):=⟨fun _=>fun p=>.agg [cell p 0,cell p 1,cell p 2,cell p 3,cell p 4,cell p 5,cell p 6,cell p 7,cell p 8,cell p 9,cell p 10,cell p 11,cell p 12,cell p 13,cell p 14,cell p 15,cell p 16,cell p 17,cell p 18,cell p 19,cell p 20,cell p 21,cell p 22,cell p 23,cell p 24,cell p 25,cell p 26,cell p 27,cell p 28,cell p 29,cell p 30,cell p 31,cell p 32,cell p 33]⟩
abbrev apn:eK Unit 15:=⟨⟩
instance:CoeFun (eK Unit 16) (fun _=>PV→PV):=⟨fun _=>fun p=>.agg [cell p 0,cell p 1,cell p 2,cell p 3,cell p 4,cell p 5,cell p 6,cell p 7,cell p 8,cell p 9,cell p 10,cell p 11,cell p 12,cell p 13,cell p 14,cell p 15,cell p 16,cell p 17,cell p 18,cell p 19,cell p 20,cell p 21,cell p 22,cell p 23,cell p 24,cell p 25,cell p 26,cell p 27,cell p 28,cell p 29,cell p 30,cell p 31,cell p 32,cell p 33,cell p 34,cell p 35,cell p 36,cell p 37,cell p 38,cell p 39,cell p 40,cell p 41,cell p 42,cell p 43,cell p 44,cell p 45,cell p 46,cell p 47,cell p 48,cell p 49,cell p 50,cell p 51,cell p 52,cell p 53,cell p 54,cell p 55,cell p 56,cell p 57,cell p 58,cell p 59,cell p 60,cell p 61,cell p 62]⟩
abbrev apo:eK Unit 16:=⟨⟩
instance:CoeFun (eK Unit 17) (fun _=>List PV→Bool):=⟨fun _=>fun l=>mK (Kd.int .i64::[].append (Kd.int .i64::[].append (Kd.int .i64::[].append []))) l⟩
abbrev ahY:eK Unit 17:=⟨⟩
instance:CoeFun (eK Unit 18) (fun _=>List PV→Bool):=⟨fun _=>fun l=>mK (Kd.int .i64::[].append (Kd.int .i64::[].append (Kd.int .i64::[].append (Kd.int .i64::[].append [])))) l⟩
abbrev ahZ:eK Unit 18:=⟨⟩
instance:CoeFun (eK Unit 19) (fun _=>List PV→Bool):=⟨fun _=>fun l=>mK (Kd.int .i64::[].append (Kd.int .i64::[].append (Kd.int .i64::[].append (Kd.int .i64::[].append (Kd.int .i64::[].append []))))) l⟩
abbrev Tk:eK Unit 19:=⟨⟩
instance {R:Type}:CoeFun (eK R 20) (fun _=>PV→(Int→Int→Int→Bool→Option R)→Option R):=⟨fun _=>fun p k=>(Ab.asAgg 4 p).bind fun _=>(Ab.asInt .i64 (cell p 0)).bind fun v0=>(Ab.asInt .i64 (cell p 1)).bind fun v1=>(Ab.asInt .i64 (cell p 2)).bind fun v2=>(Ab.asBool (cell p 3)).bind fun v3=>k v0 v1 v2 v3⟩
abbrev apq:eK R 20:=⟨⟩
instance {R:Type}:CoeFun (eK R 21) (fun _=>PV→(Bytes→Int→Int→Bool→List PV→Option R)→Option R):=⟨fun _=>fun p k=>(Ab.asAgg 5 p).bind fun _=>(aO (cell p 0)).bind fun v0=>(Ab.asInt .i64 (cell p 1)).bind fun v1=>(Ab.asInt .i64 (cell p 2)).bind fun v2=>(Ab.asBool (cell p 3)).bind fun v3=>(ao 5 (cell p 4)).bind fun v4=>k v0 v1 v2 v3 v4⟩
abbrev abw:eK R 21:=⟨⟩
instance {R:Type}:CoeFun (eK R 22) (fun _=>PV→(Int→Int→Int→Int→Option R)→Option R):=⟨fun _=>fun p k=>(Ab.asAgg 4 p).bind fun _=>(Ab.asInt .i64 (cell p 0)).bind fun v0=>(Ab.asInt .i64 (cell p 1)).bind fun v1=>(Ab.asInt .i64 (cell p 2)).bind fun v2=>(Ab.asInt .i64 (cell p 3)).bind fun v3=>k v0 v1 v2 v3⟩
abbrev Tl:eK R 22:=⟨⟩
instance {R:Type}:CoeFun (eK R 23) (fun _=>PV→(List PV→List PV→List PV→List PV→List PV→List PV→List PV→List PV→List PV→List PV→Int→Int→Int→Option R)→Option R):=⟨fun _=>fun p k=>(Ab.asAgg 13 p).bind fun _=>(ao 4 (cell p 0)).bind fun v0=>(ao 3 (cell p 1)).bind fun v1=>(ao 10 (cell p 2)).bind fun v2=>(ao 3 (cell p 3)).bind fun v3=>(ao 5 (cell p 4)).bind fun v4=>(ao 4 (cell p 5)).bind fun v5=>(ao 2 (cell p 6)).bind fun v6=>(ao 3 (cell p 7)).bind fun v7=>(ao 4 (cell p 8)).bind fun v8=>(ao 6 (cell p 9)).bind fun v9=>(Ab.asInt .i64 (cell p 10)).bind fun v10=>(Ab.asInt .i64 (cell p 11)).bind fun v11=>(Ab.asInt .i64 (cell p 12)).bind fun v12=>k v0 v1 v2 v3 v4 v5 v6 v7 v8 v9 v10 v11 v12⟩
abbrev I7:eK R 23:=⟨⟩
instance {R:Type}:CoeFun (eK R 24) (fun _=>PV→(Int→Int→Int→Bytes→Int→Bool→Bool→List PV→Option R)→Option R):=⟨fun _=>fun p k=>(Ab.asAgg 8 p).bind fun _=>(Ab.asInt .i64 (cell p 0)).bind fun v0=>(Ab.asInt .i64 (cell p 1)).bind fun v1=>(Ab.asInt .i64 (cell p 2)).bind fun v2=>(aO (cell p 3)).bind fun v3=>(Ab.asInt .i64 (cell p 4)).bind fun v4=>(Ab.asBool (cell p 5)).bind fun v5=>(Ab.asBool (cell p 6)).bind fun v6=>(ao 5 (cell p 7)).bind fun v7=>k v0 v1 v2 v3 v4 v5 v6 v7⟩
abbrev abx:eK R 24:=⟨⟩
instance {R:Type}:CoeFun (eK R 25) (fun _=>PV→(Bool→Int→Int→Int→Int→Int→Int→Int→Bool→Option R)→Option R):=⟨fun _=>fun p k=>(Ab.asAgg 9 p).bind fun _=>(Ab.asBool (cell p 0)).bind fun v0=>(Ab.asInt .i64 (cell p 1)).bind fun v1=>(Ab.asInt .i64 (cell p 2)).bind fun v2=>(Ab.asInt .i64 (cell p 3)).bind fun v3=>(Ab.asInt .i64 (cell p 4)).bind fun v4=>(Ab.asInt .i64 (cell p 5)).bind fun v5=>(Ab.asInt .i64 (cell p 6)).bind fun v6=>(Ab.asInt .i64 (cell p 7)).bind fun v7=>(Ab.asBool (cell p 8)).bind fun v8=>k v0 v1 v2 v3 v4 v5 v6 v7 v8⟩
abbrev yu:eK R 25:=⟨⟩
instance {R:Type}:CoeFun (eK R 26) (fun _=>PV→(List PV→List PV→List PV→List PV→List PV→List PV→Int→Int→Int→Option R)→Option R):=⟨fun _=>fun p k=>(Ab.asAgg 9 p).bind fun _=>(ao 4 (cell p 0)).bind fun v0=>(ao 3 (cell p 1)).bind fun v1=>(ao 8 (cell p 2)).bind fun v2=>(ao 5 (cell p 3)).bind fun v3=>(ao 4 (cell p 4)).bind fun v4=>(ao 6 (cell p 5)).bind fun v5=>(Ab.asInt .i64 (cell p 6)).bind fun v6=>(Ab.asInt .i64 (cell p 7)).bind fun v7=>(Ab.asInt .i64 (cell p 8)).bind fun v8=>k v0 v1 v2 v3 v4 v5 v6 v7 v8⟩
abbrev iE:eK R 26:=⟨⟩
instance {R:Type}:CoeFun (eK R 27) (fun _=>PV→(Int→Int→Int→Option R)→Option R):=⟨fun _=>fun p k=>(Ab.asAgg 3 p).bind fun _=>(Ab.asInt .i64 (cell p 0)).bind fun v0=>(Ab.asInt .i64 (cell p 1)).bind fun v1=>(Ab.asInt .i64 (cell p 2)).bind fun v2=>k v0 v1 v2⟩
abbrev aby:eK R 27:=⟨⟩
instance {R:Type}:CoeFun (eK R 28) (fun _=>PV→(List PV→Int→Int→Int→Option R)→Option R):=⟨fun _=>fun p k=>(Ab.asAgg 4 p).bind fun _=>(ao 6 (cell p 0)).bind fun v0=>(Ab.asInt .i64 (cell p 1)).bind fun v1=>(Ab.asInt .i64 (cell p 2)).bind fun v2=>(Ab.asInt .i64 (cell p 3)).bind fun v3=>k v0 v1 v2 v3⟩
abbrev MV:eK R 28:=⟨⟩
instance {R:Type}:CoeFun (eK R 29) (fun _=>PV→(Int→Int→Int→Bool→Int→Int→Bool→Bool→Int→Bool→Option R)→Option R):=⟨fun _=>fun p k=>(Ab.asAgg 10 p).bind fun _=>(Ab.asInt .i64 (cell p 0)).bind fun v0=>(Ab.asInt .i64 (cell p 1)).bind fun v1=>(Ab.asInt .i64 (cell p 2)).bind fun v2=>(Ab.asBool (cell p 3)).bind fun v3=>(Ab.asInt .i64 (cell p 4)).bind fun v4=>(Ab.asInt .i64 (cell p 5)).bind fun v5=>(Ab.asBool (cell p 6)).bind fun v6=>(Ab.asBool (cell p 7)).bind fun v7=>(Ab.asInt .i64 (cell p 8)).bind fun v8=>(Ab.asBool (cell p 9)).bind fun v9=>k v0 v1 v2 v3 v4 v5 v6 v7 v8 v9⟩
abbrev yw:eK R 29:=⟨⟩
instance {R:Type}:CoeFun (eK R 30) (fun _=>PV→(Bytes→Int→Int→Int→Int→Int→Option R)→Option R):=⟨fun _=>fun p k=>(Ab.asAgg 6 p).bind fun _=>(aO (cell p 0)).bind fun v0=>(Ab.asInt .i64 (cell p 1)).bind fun v1=>(Ab.asInt .i64 (cell p 2)).bind fun v2=>(Ab.asInt .i64 (cell p 3)).bind fun v3=>(Ab.asInt .i64 (cell p 4)).bind fun v4=>(Ab.asInt .i64 (cell p 5)).bind fun v5=>k v0 v1 v2 v3 v4 v5⟩
abbrev Tm:eK R 30:=⟨⟩
instance {R:Type}:CoeFun (eK R 31) (fun _=>PV→(List PV→List PV→List PV→List PV→List PV→List PV→Int→Int→Int→Int→Int→Int→Bool→Int→Int→Bool→Bool→Int→Bool→List PV→Int→Option R)→Option R):=⟨fun _=>fun p k=>(Ab.asAgg 21 p).bind fun _=>(ao 4 (cell p 0)).bind fun v0=>(ao 3 (cell p 1)).bind fun v1=>(ao 8 (cell p 2)).bind fun v2=>(ao 5 (cell p 3)).bind fun v3=>(ao 4 (cell p 4)).bind fun v4=>(ao 6 (cell p 5)).bind fun v5=>(Ab.asInt .i64 (cell p 6)).bind fun v6=>(Ab.asInt .i64 (cell p 7)).bind fun v7=>(Ab.asInt .i64 (cell p 8)).bind fun v8=>(Ab.asInt .i64 (cell p 9)).bind fun v9=>(Ab.asInt .i64 (cell p 10)).bind fun v10=>(Ab.asInt .i64 (cell p 11)).bind fun v11=>(Ab.asBool (cell p 12)).bind fun v12=>(Ab.asInt .i64 (cell p 13)).bind fun v13=>(Ab.asInt .i64 (cell p 14)).bind fun v14=>(Ab.asBool (cell p 15)).bind fun v15=>(Ab.asBool (cell p 16)).bind fun v16=>(Ab.asInt .i64 (cell p 17)).bind fun v17=>(Ab.asBool (cell p 18)).bind fun v18=>(ao 9 (cell p 19)).bind fun v19=>(Ab.asInt .i64 (cell p 20)).bind fun v20=>k v0 v1 v2 v3 v4 v5 v6 v7 v8 v9 v10 v11 v12 v13 v14 v15 v16 v17 v18 v19 v20⟩
abbrev uX:eK R 31:=⟨⟩
instance {R:Type}:CoeFun (eK R 32) (fun _=>PV→(List PV→Int→Int→Int→Int→Int→List PV→Option R)→Option R):=⟨fun _=>fun p k=>(Ab.asAgg 7 p).bind fun _=>(ao 9 (cell p 0)).bind fun v0=>(Ab.asInt .i64 (cell p 1)).bind fun v1=>(Ab.asInt .i64 (cell p 2)).bind fun v2=>(Ab.asInt .i64 (cell p 3)).bind fun v3=>(Ab.asInt .i64 (cell p 4)).bind fun v4=>(Ab.asInt .i64 (cell p 5)).bind fun v5=>(ao 4 (cell p 6)).bind fun v6=>k v0 v1 v2 v3 v4 v5 v6⟩
abbrev O7:eK R 32:=⟨⟩
instance {R:Type}:CoeFun (eK R 33) (fun _=>PV→(Int→Int→Int→Int→Int→Option R)→Option R):=⟨fun _=>fun p k=>(Ab.asAgg 5 p).bind fun _=>(Ab.asInt .i64 (cell p 0)).bind fun v0=>(Ab.asInt .i64 (cell p 1)).bind fun v1=>(Ab.asInt .i64 (cell p 2)).bind fun v2=>(Ab.asInt .i64 (cell p 3)).bind fun v3=>(Ab.asInt .i64 (cell p 4)).bind fun v4=>k v0 v1 v2 v3 v4⟩
abbrev ZC:eK R 33:=⟨⟩
instance:CoeFun (eK Unit 34) (fun _=>Bool→Int→Int→Int→Int→Int→Int→Int→Bool→PV):=⟨fun _=>fun v0 v1 v2 v3 v4 v5 v6 v7 v8=>.agg [.bool v0,.int .i64 v1,.int .i64 v2,.int .i64 v3,.int .i64 v4,.int .i64 v5,.int .i64 v6,.int .i64 v7,.bool v8]⟩
abbrev VV:eK Unit 34:=⟨⟩
instance:CoeFun (eK Unit 35) (fun _=>Int→Int→Int→Bool→Int→Int→Bool→Bool→Int→Bool→PV):=⟨fun _=>fun v0 v1 v2 v3 v4 v5 v6 v7 v8 v9=>.agg [.int .i64 v0,.int .i64 v1,.int .i64 v2,.bool v3,.int .i64 v4,.int .i64 v5,.bool v6,.bool v7,.int .i64 v8,.bool v9]⟩
abbrev uL:eK Unit 35:=⟨⟩
instance:CoeFun (eK Unit 36) (fun _=>Int→Int→Int→Int→Int→PV):=⟨fun _=>fun v0 v1 v2 v3 v4=>.agg [.int .i64 v0,.int .i64 v1,.int .i64 v2,.int .i64 v3,.int .i64 v4]⟩
abbrev amq:eK Unit 36:=⟨⟩
instance:CoeFun (eK Unit 37) (fun _=>List PV→List PV→List PV→List PV→List PV→List PV→List PV→List PV→List PV→List PV→Int→Int→Int→PV):=⟨fun _=>fun v0 v1 v2 v3 v4 v5 v6 v7 v8 v9 v10 v11 v12=>.agg [.rs 4 v0,.rs 3 v1,.rs 10 v2,.rs 3 v3,.rs 5 v4,.rs 4 v5,.rs 2 v6,.rs 3 v7,.rs 4 v8,.rs 6 v9,.int .i64 v10,.int .i64 v11,.int .i64 v12]⟩
abbrev Kb:eK Unit 37:=⟨⟩
instance:CoeFun (eK Unit 38) (fun _=>List PV→List PV→List PV→List PV→List PV→List PV→Int→Int→Int→PV):=⟨fun _=>fun v0 v1 v2 v3 v4 v5 v6 v7 v8=>.agg [.rs 4 v0,.rs 3 v1,.rs 8 v2,.rs 5 v3,.rs 4 v4,.rs 6 v5,.int .i64 v6,.int .i64 v7,.int .i64 v8]⟩
abbrev eY:eK Unit 38:=⟨⟩
instance:CoeFun (eK Unit 39) (fun _=>List PV→List PV→List PV→List PV→List PV→List PV→Int→Int→Int→Int→Int→Int→Bool→Int→Int→Bool→Bool→Int→Bool→List PV→Int→PV):=⟨fun _=>fun v0 v1 v2 v3 v4 v5 v6 v7 v8 v9 v10 v11 v12 v13 v14 v15 v16 v17 v18 v19 v20=>.agg [.rs 4 v0,.rs 3 v1,.rs 8 v2,.rs 5 v3,.rs 4 v4,.rs 6 v5,.int .i64 v6,.int .i64 v7,.int .i64 v8,.int .i64 v9,.int .i64 v10,.int .i64 v11,.bool v12,.int .i64 v13,.int .i64 v14,.bool v15,.bool v16,.int .i64 v17,.bool v18,.rs 9 v19,.int .i64 v20]⟩
abbrev mG:eK Unit 39:=⟨⟩
instance:CoeFun (eK Unit 40) (fun _=>List PV→Int→Int→Int→Int→Int→List PV→PV):=⟨fun _=>fun v0 v1 v2 v3 v4 v5 v6=>.agg [.rs 9 v0,.int .i64 v1,.int .i64 v2,.int .i64 v3,.int .i64 v4,.int .i64 v5,.rs 4 v6]⟩
abbrev af3:eK Unit 40:=⟨⟩
instance:CoeFun (eK Unit 41) (fun _=>Bytes→Int→Int→Bool→List PV→PV):=⟨fun _=>fun v0 v1 v2 v3 v4=>.agg [.str v0,.int .i64 v1,.int .i64 v2,.bool v3,.rs 5 v4]⟩
abbrev ZD:eK Unit 41:=⟨⟩
instance {R:Type}:CoeFun (eK R 42) (fun _=>PV→Nat→(Int→Option R)→Option R):=⟨fun _=>fun p j k=>(Ab.asInt .i64 (cell p j)).bind k⟩
abbrev ar:eK R 42:=⟨⟩
instance {R:Type}:CoeFun (eK R 43) (fun _=>PV→Nat→(Bool→Option R)→Option R):=⟨fun _=>fun p j k=>(Ab.asBool (cell p j)).bind k⟩
abbrev eA:eK R 43:=⟨⟩
instance {R:Type}:CoeFun (eK R 44) (fun _=>Nat→PV→Nat→(List PV→Option R)→Option R):=⟨fun _=>fun s p j k=>(ao s (cell p j)).bind k⟩
abbrev eo:eK R 44:=⟨⟩
instance {R:Type}:CoeFun (eK R 45) (fun _=>PV→(Int→Option R)→Option R):=⟨fun _=>fun p k=>(Ab.asInt .i64 p).bind k⟩
abbrev bL:eK R 45:=⟨⟩
instance {R:Type}:CoeFun (eK R 46) (fun _=>PV→(Bool→Option R)→Option R):=⟨fun _=>fun p k=>(Ab.asBool p).bind k⟩
abbrev ZE:eK R 46:=⟨⟩
instance {R:Type}:CoeFun (eK R 47) (fun _=>Nat→PV→(Unit→Option R)→Option R):=⟨fun _=>fun n p k=>(Ab.asAgg n p).bind k⟩
abbrev lz:eK R 47:=⟨⟩
instance {R:Type}:CoeFun (eK R 48) (fun _=>List PV→Nat→(Int→Option R)→Option R):=⟨fun _=>fun p j k=>(Ab.asInt .i64 (p.getD j .bad)).bind k⟩
abbrev mcG:eK R 48:=⟨⟩
instance {R:Type}:CoeFun (eK R 49) (fun _=>(List PV→Option PV)→List PV→(Int→Option R)→Option R):=⟨fun _=>fun f l k=>(f l).bind fun r=>(Ab.asInt .i64 r).bind k⟩
abbrev pE:eK R 49:=⟨⟩
instance {R:Type}:CoeFun (eK R 50) (fun _=>(List PV→Option PV)→List PV→(Bool→Option R)→Option R):=⟨fun _=>fun f l k=>(f l).bind fun r=>(Ab.asBool r).bind k⟩
abbrev cq:eK R 50:=⟨⟩
instance {R:Type}:CoeFun (eK R 51) (fun _=>List PV→Int→(PV→Option R)→Option R):=⟨fun _=>fun l i k=>(dB l i).bind k⟩
abbrev bh:eK R 51:=⟨⟩
instance {R:Type}:CoeFun (eK R 52) (fun _=>(List PV→Option PV)→List PV→(PV→Option R)→Option R):=⟨fun _=>fun f l k=>(f l).bind k⟩
abbrev eP:eK R 52:=⟨⟩
instance {R:Type}:CoeFun (eK R 53) (fun _=>Bool→Option Bool→(Bool→Option R)→Option R):=⟨fun _=>fun c x k=>(bif c then some true else x).bind k⟩
abbrev bG:eK R 53:=⟨⟩
instance {R:Type}:CoeFun (eK R 54) (fun _=>Bool→Option Bool→(Bool→Option R)→Option R):=⟨fun _=>fun c x k=>(bif c then x else some false).bind k⟩
abbrev bM:eK R 54:=⟨⟩
instance {R:Type}:CoeFun (eK R 55) (fun _=>List PV→Int→(PV→Option R)→Option R):=⟨fun _=>fun l i k=>if al i l.length then l[i.toNat]?.bind k else none⟩
abbrev GF:eK R 55:=⟨⟩
instance:CoeFun (eK Unit 56) (fun _=>Int→Int):=⟨fun _=>IntKind.i64.wrap⟩
abbrev aq:eK Unit 56:=⟨⟩
instance:CoeFun PV (fun _=>Nat→PV):=⟨cell⟩
instance:Coe Int PV:=⟨.int .i64⟩
def yX:Bytes:=[114,117,110,32]
def ni:Bytes:=[32,111,102,32,100,97,121,32]
def Ae:Bytes:=[32,105,115,32,115,99,104,101,100,117,108,101,100]
def EO:Bytes:=[44,32,115,116,97,114,116,32]
def kU:Bytes:=[32,105,115,32,97,100,100,101,100,32,98,121,32,97,110,32,101,120,99,101,112,116,105,111,110]
def xJ:Bytes:=[32,105,115,32,97,100,100,105,116,105,111,110,97,108]
def iF:Bytes:=[100,101,112,97,114,116,115,32,97,116,32]
def j6:Bytes:=[44,32,97,114,114,105,118,101,115,32,97,116,32]
def tg:Bytes:=[32,115,101,99,111,110,100,115,32,108,97,116,101]
def rq:Bytes:=[32,115,101,99,111,110,100,115,32,101,97,114,108,121]
def Qz:Bytes:=[98,111,97,114,100,105,110,103,32,97,116,32]
def NI:Bytes:=[97,108,105,103,104,116,105,110,103,32,97,116,32]
def eb:Bytes:=[32,115,101,99,111,110,100,115,32,102,111,114,32,116,104,101,32,99,104,97,110,103,101,32,97,116,32]
def Tn:Bytes:=[32,97,114,101,32,110,101,101,100,101,100]
def MW:Bytes:=[115,116,97,121,115,32,111,110,32,98,111,97,114,100]
def rr:Bytes:=[103,117,97,114,97,110,116,101,101,100,32,99,104,97,110,103,101,32,119,105,116,104,32]
def O8:Bytes:=[32,115,101,99,111,110,100,115]
def ZF:Bytes:=[119,97,108,107,115,32]
def MX:Bytes:=[116,105,99,107,101,116,32]
def aiY:Bytes:=[32,102,111,114,32]
def af4:Bytes:=[108,101,103,32]
def W7:Bytes:=[100,97,105,108,121]
def R8:Bytes:=[115,105,110,103,108,101]
def lP:Bytes:=[108,101,103,32,49,58,32,114,117,110,32,120,32,111,102,32,100,97,121,32,48,32,105,115,32,115,99,104,101,100,117,108,101,100]
def ef:Bytes:=[108,101,103,32,49,58,32,100,101,112,97,114,116,115,32,97,116,32,49,54,48,44,32,97,114,114,105,118,101,115,32,97,116,32,50,48,48,44,32,54,48,32,115,101,99,111,110,100,115,32,108,97,116,101]
abbrev TY0:=List PV×Int×Int×List PV×List PV×List PV×List PV×List PV×List PV×Int×Int×Int×Int×Int×Int×List (PV×PV)×List (PV×PV)×List (PV×PV)×Unit
abbrev TY1:=List PV×List PV×Int×Int×Int×Unit
abbrev TY2:=PV×List PV×Int×Int×List PV×Int×PV×PV×PV×List PV×Unit
abbrev TY3:=Int×PV×List PV×Int×Int×Int×List PV×PV×PV×PV×List PV×Unit
abbrev TY4:=Int×PV×Int×Int×Int×Int×PV×PV×PV×List PV×List PV×Unit
abbrev TY5:=Int×PV×Int×List PV×List PV×Unit
abbrev TY6:=Bool×List PV×Int×Int×List (PV×PV)×Unit
abbrev TY7:=Int×Bool×List PV×Int×Int×List (PV×PV)×Unit
abbrev TY8:=List PV×List PV×Int×Int×List PV×Unit
abbrev TY9:=List PV×List PV×Int×Int×Int×List PV×Int×Int×List PV×Unit
abbrev apr:=Int×List PV×Int×Int×List (PV×PV)×Unit
abbrev ahJ:=List PV×Int×Int×List PV×List PV×List PV×List PV×List PV×List PV×Int×Int×Int×Int×Int×Int×List (PV×PV)×Unit
abbrev aps:=List PV×Int×Int×Int×Int×Int×Unit
abbrev af5:=List PV×Int×Int×List (PV×PV)×Unit
abbrev aqZ:=Int×Int×List PV×Int×Int×Int×PV×PV×PV×PV×PV×PV×Unit
abbrev apt:=Int×Int×Int×Int×List PV×List PV×List PV×List PV×List PV×List PV×Int×Int×Int×Unit
abbrev aq0:=Int×Int×Int×Int×Int×Int×List PV×List PV×List PV×List PV×List PV×List PV×Int×Int×Int×Unit
abbrev apu:=Int×Int×List PV×List PV×List PV×List PV×List PV×List PV×Int×Int×Int×PV×PV×PV×PV×PV×Unit
abbrev amr:=List PV×Int×Bool×Int×List PV×Unit
abbrev aq1:=List PV×Int×Bool×Int×Int×List PV×List PV×Unit
abbrev akd:=Int×List PV×List PV×Int×List PV×Unit
abbrev aq2:=Int×List PV×List PV×Int×Int×List PV×Unit
abbrev aa7:=Int×List PV×List PV×List PV×List PV×List PV×List PV×Int×Int×Int×Unit
abbrev aq3:=Int×Int×List PV×List PV×List PV×List PV×List PV×List PV×Int×Int×Int×PV×PV×PV×PV×Unit
abbrev aq4:=List PV×Int×List PV×List PV×List PV×List PV×List PV×List PV×Int×Int×Int×Unit
abbrev aq5:=Int×Int×List PV×List PV×List PV×List PV×List PV×List PV×Int×Int×Int×PV×PV×PV×PV×PV×PV×PV×PV×Unit
abbrev aq6:=List PV×Int×Int×Bytes×Int×Int×Int×Int×Int×Int×Int×Unit
abbrev ajQ:=Int×Int×Int×List PV×Int×Int×Int×List PV×List PV×List PV×Unit
abbrev aq7:=Int×Int×Int×Int×Int×List PV×Int×Int×Int×List PV×List PV×List PV×Unit
abbrev ajR:=Int×Int×List PV×Int×Int×Int×List PV×List PV×List PV×Unit
abbrev aq8:=List PV×Int×List PV×Int×Int×Int×List PV×List PV×Unit
abbrev aq9:=Int×List PV×Int×Int×List PV×List PV×List PV×List PV×List PV×List PV×Int×Int×Int×Unit
abbrev ara:=Bool×List PV×Int×Int×List PV×List PV×List PV×List PV×List PV×List PV×Int×Int×Int×List PV×Unit
abbrev arb:=Int×List PV×Int×Int×List PV×List PV×List PV×List PV×List PV×List PV×Int×Int×Int×Int×Int×Int×Bool×Int×Int×Bool×Bool×Int×Bool×List PV×PV×PV×PV×PV×PV×PV×PV×PV×PV×Unit
abbrev arc:=Bool×List PV×Int×Int×PV×PV×PV×PV×PV×PV×PV×PV×PV×PV×PV×PV×PV×PV×PV×PV×PV×PV×Unit
abbrev ard:=Int×List PV×Int×Int×List PV×List PV×List PV×List PV×List PV×List PV×Int×Int×Int×Int×Int×Int×Bool×Int×Int×Bool×Bool×Int×Bool×List PV×Int×PV×PV×PV×PV×PV×PV×PV×PV×PV×Unit
abbrev arf:=List PV×List PV×List PV×List PV×List PV×List PV×List PV×Int×Int×Int×Int×Int×Int×Bool×Int×Int×Bool×Bool×Int×Bool×List PV×Int×Unit
abbrev apv:=Bool×Int×List PV×List PV×List PV×List PV×List PV×List PV×Int×Int×Int×Bool×Int×Int×Int×Int×Int×Int×Int×Bool×Bool×Int×Int×Int×Int×Int×Int×Int×Bool×Unit
abbrev arh:=Int×Int×List PV×List PV×List PV×List PV×List PV×List PV×Int×Int×Int×Int×Int×Int×Bool×Int×Int×Bool×Bool×Int×Bool×Bool×Int×Int×Int×Int×Int×Int×Int×Bool×Unit
abbrev ari:=List PV×Int×Int×Int×Int×Int×Bytes×Int×Int×Int×Int×Int×Unit
abbrev ajS:=List PV×Int×Int×List PV×Int×Int×Int×List PV×Unit
abbrev arj:=List PV×Int×Int×Int×List PV×Int×Int×Int×List PV×Unit
abbrev ajT:=List PV×Int×List PV×Int×Int×Int×List PV×Unit
abbrev ark:=Int×List PV×Int×List PV×List PV×List PV×List PV×List PV×List PV×Int×Int×Int×Bool×Int×Int×Int×Int×Int×Int×Int×Bool×Unit
abbrev arl:=Int×List PV×List PV×List PV×List PV×List PV×List PV×Int×Int×Int×List PV×List PV×Unit
abbrev arn:=Int×Int×List PV×List PV×List PV×List PV×List PV×List PV×Int×Int×Int×Int×Int×Int×Bool×Int×Int×Bool×Bool×Int×Bool×List PV×Unit
abbrev aro:=Int×List PV×List PV×List PV×List PV×List PV×List PV×Int×Int×Int×Int×Int×Int×Bool×Int×Int×Bool×Bool×Int×Bool×List PV×Unit
abbrev arp:=Int×Int×Int×List PV×Int×Int×PV×PV×PV×PV×PV×PV×PV×PV×PV×PV×Unit
abbrev apw:=Int×Int×List PV×Int×Int×PV×PV×PV×PV×List PV×Unit
abbrev arq:=Int×Int×Int×Int×List PV×Int×Int×PV×PV×PV×PV×List PV×Unit
abbrev apx:=Int×List PV×Int×Int×List PV×Unit
abbrev ars:=Bool×List PV×Int×Int×Bool×Int×Int×Int×Int×Int×Int×Int×Bool×Bool×Int×Int×Int×Int×Int×Int×Int×Bool×Unit
abbrev art:=PV×List PV×Int×Int×Bool×Int×Int×Int×Int×Int×Int×Int×Bool×Unit
def ux(L:bk)(p0 p1:PV):Option PV:=bL p0 fun a=>bL p1 fun b=>if(a !=a)then if(b !=b)then some (PV.int .i64 0)else some (PV.int .i64 (-1))else if(b !=b)then some (PV.int .i64 1)else if decide (a<b)then some (PV.int .i64 (-1))else if decide (a>b)then some (PV.int .i64 1)else some (PV.int .i64 0)
def fK:List PV→Option PV|[p0,p1]=>ux bd p0 p1|_=>none
def fi:cG (Int×List PV×Int×Int×Unit):=fun(a,b,c,d,_)=>fun e=>if decide (d<c)then bh b d fun f=>ar f 0 fun f=>if(f !=a)then some (f)else e (a,b,c,aq (d+1),())
else some (a)
def Gs(L:bk)(p0:PV):Option PV:=(ao 1 p0).bind fun a=>L.run fi (0,a,(↑a.length:Int),0,())
def vB:List PV→Option PV|[p0]=>Gs bd p0|_=>none
def oW(L:bk)(p0 p1:PV):Option PV:=apq p0 fun a b c _=>apq p1 fun d e f _=>pE fK [a,d] fun d=>pE fK [b,e] fun e=>pE fK [c,f] fun f=>pE vB [.rs 1 [d,e,f]] fun f=>some (f)
def cD:List PV→Option PV|[p0,p1]=>oW bd p0 p1|_=>none
def BO(L:bk)(p0:PV):Option PV:=bL p0 fun a=>bM (decide (0≤a)) (some (decide (a≤36524))) fun a=>some (PV.bool a)
def fj:List PV→Option PV|[p0]=>BO bd p0|_=>none
def BP(L:bk)(p0:PV):Option PV:=bL p0 fun a=>cq fj [a] fun b=>if(!b)then some (PV.aG [.int .i64 0,.bool false])else some (PV.aG [((aq (a+5)).tmod 7),.bool true])
def q9:List PV→Option PV|[p0]=>BP bd p0|_=>none
def oY(L:bk):cG (arp):=fun(a,b,c,d,e,f,g,h,i,j,k,l,m,n,o,p,_)=>fun q=>if decide (f<e)then bh d f fun r=>ar r 0 fun s=>bG (s !=a) (ar r 1 fun s=>some (s !=b)) fun s=>if s then q (a,b,c,d,e,aq (f+1),g,h,i,j,k,l,m,n,o,p,())else eA r 2 fun s=>if s then some (PV.int .i64 2)else some (PV.int .i64 3)
else bG (c==3) (bL o fun s=>some (decide (b<s))) fun s=>bG s (bL p fun s=>some (decide (b>s))) fun s=>if s then some (c)else MU q9 [b] fun s _=>if al s 7∧0<1 then[g,h,i,j,k,l,m,n,o,p][1+s.toNat*1]?.bind fun s=>ZE s fun s=>if s then some (PV.int .i64 1)else some (PV.int .i64 4)else none
def uy(L:bk)(p0 p1 p2 p3:PV):Option PV:=(ao 10 p0).bind fun a=>(ao 3 p1).bind fun b=>bL p2 fun c=>bL p3 fun d=>bG (decide (c<0)) (some (decide (c≥(↑a.length:Int)))) fun e=>bG e (cq fj [d] fun e=>some !e) fun e=>if e then some (PV.int .i64 0)else bh a c fun e=>L.run (oY L) (c,d,5,b,(↑b.length:Int),0,e 0,e 1,e 2,e 3,e 4,e 5,e 6,e 7,e 8,e 9,())
def iD:List PV→Option PV|[p0,p1,p2,p3]=>uy bd p0 p1 p2 p3|_=>none
def uz(L:bk)(p0 p1 p2 p3:PV):Option PV:=(ao 10 p0).bind fun a=>(ao 3 p1).bind fun b=>bL p2 fun c=>bL p3 fun d=>pE iD [.rs 10 a,.rs 3 b,c,d] fun d=>bG (d==1) (some (d==2)) fun d=>some (PV.bool d)
def lW:List PV→Option PV|[p0,p1,p2,p3]=>uz bd p0 p1 p2 p3|_=>none
def q7(L:bk)(p0:PV):Option PV:=bL p0 fun a=>bG (decide (a< -2305843009213693952)) (some (decide (a>2305843009213693952))) fun a=>some (PV.bool a)
def eB:List PV→Option PV|[p0]=>q7 bd p0|_=>none
def xt(L:bk)(p0 p1 p2:PV):Option PV:=bL p0 fun a=>bL p1 fun b=>bL p2 fun c=>bM (aq (aq (aq (a.fdiv (2^min (Int.toNat 32) IntKind.i64.bits)-b.fdiv (2^min (Int.toNat 32) IntKind.i64.bits))+c.fdiv (2^min (Int.toNat 32) IntKind.i64.bits))+(aq (aq (aq (↑(BitVec.ofInt IntKind.i64.bits a&&&BitVec.ofInt IntKind.i64.bits 4294967295).toNat:Int)-aq (↑(BitVec.ofInt IntKind.i64.bits b&&&BitVec.ofInt IntKind.i64.bits 4294967295).toNat:Int))+aq (↑(BitVec.ofInt IntKind.i64.bits c&&&BitVec.ofInt IntKind.i64.bits 4294967295).toNat:Int))).fdiv (2^min (Int.toNat 32) IntKind.i64.bits))==0) (some (decide (aq (↑(BitVec.ofInt IntKind.i64.bits (aq (aq (aq (aq (a.fdiv (2^min (Int.toNat 32) IntKind.i64.bits)-b.fdiv (2^min (Int.toNat 32) IntKind.i64.bits))+c.fdiv (2^min (Int.toNat 32) IntKind.i64.bits))+(aq (aq (aq (↑(BitVec.ofInt IntKind.i64.bits a&&&BitVec.ofInt IntKind.i64.bits 4294967295).toNat:Int)-aq (↑(BitVec.ofInt IntKind.i64.bits b&&&BitVec.ofInt IntKind.i64.bits 4294967295).toNat:Int))+aq (↑(BitVec.ofInt IntKind.i64.bits c&&&BitVec.ofInt IntKind.i64.bits 4294967295).toNat:Int))).fdiv (2^min (Int.toNat 32) IntKind.i64.bits))*2^min (Int.toNat 32) IntKind.i64.bits))|||BitVec.ofInt IntKind.i64.bits (aq (↑(BitVec.ofInt IntKind.i64.bits (aq (aq (aq (↑(BitVec.ofInt IntKind.i64.bits a&&&BitVec.ofInt IntKind.i64.bits 4294967295).toNat:Int)-aq (↑(BitVec.ofInt IntKind.i64.bits b&&&BitVec.ofInt IntKind.i64.bits 4294967295).toNat:Int))+aq (↑(BitVec.ofInt IntKind.i64.bits c&&&BitVec.ofInt IntKind.i64.bits 4294967295).toNat:Int)))&&&BitVec.ofInt IntKind.i64.bits 4294967295).toNat:Int))).toNat:Int)≤172800))) fun d=>some (PV.aG [(aq (↑(BitVec.ofInt IntKind.i64.bits (aq (aq (aq (aq (a.fdiv (2^min (Int.toNat 32) IntKind.i64.bits)-b.fdiv (2^min (Int.toNat 32) IntKind.i64.bits))+c.fdiv (2^min (Int.toNat 32) IntKind.i64.bits))+(aq (aq (aq (↑(BitVec.ofInt IntKind.i64.bits a&&&BitVec.ofInt IntKind.i64.bits 4294967295).toNat:Int)-aq (↑(BitVec.ofInt IntKind.i64.bits b&&&BitVec.ofInt IntKind.i64.bits 4294967295).toNat:Int))+aq (↑(BitVec.ofInt IntKind.i64.bits c&&&BitVec.ofInt IntKind.i64.bits 4294967295).toNat:Int))).fdiv (2^min (Int.toNat 32) IntKind.i64.bits))*2^min (Int.toNat 32) IntKind.i64.bits))|||BitVec.ofInt IntKind.i64.bits (aq (↑(BitVec.ofInt IntKind.i64.bits (aq (aq (aq (↑(BitVec.ofInt IntKind.i64.bits a&&&BitVec.ofInt IntKind.i64.bits 4294967295).toNat:Int)-aq (↑(BitVec.ofInt IntKind.i64.bits b&&&BitVec.ofInt IntKind.i64.bits 4294967295).toNat:Int))+aq (↑(BitVec.ofInt IntKind.i64.bits c&&&BitVec.ofInt IntKind.i64.bits 4294967295).toNat:Int)))&&&BitVec.ofInt IntKind.i64.bits 4294967295).toNat:Int))).toNat:Int)),.bool d])
def nj:List PV→Option PV|[p0,p1,p2]=>xt bd p0 p1 p2|_=>none
def uA(L:bk)(p0 p1 p2:PV):Option PV:=bL p0 fun a=>bL p1 fun b=>bL p2 fun c=>cq eB [a] fun d=>bG d (cq eB [b] fun d=>some d) fun d=>bG d (cq eB [c] fun d=>some d) fun d=>if d then MU nj [a,b,c] fun d e=>some (PV.aG [d,.bool e])else bM (decide (aq (aq (a-b)+c)≥0)) (some (decide (aq (aq (a-b)+c)≤172800))) fun e=>some (PV.aG [(aq (aq (a-b)+c)),.bool e])
def iG:List PV→Option PV|[p0,p1,p2]=>uA bd p0 p1 p2|_=>none
def dW:cG (Int×Int×Int×Int×List PV×Unit):=fun(a,b,c,d,e,_)=>fun f=>if decide (d<c)then GF e d fun g=>ar g 1 fun g=>MU iG [g,b,a] fun g h=>GF e d fun i=>if al d (e.set d.toNat (PV.agg (i 0::PV.int .i64 g::over [] [i 2,i 3,i 4]))).length then(e.set d.toNat (PV.agg (i 0::PV.int .i64 g::over [] [i 2,i 3,i 4])))[d.toNat]?.bind fun j=>ar j 2 fun j=>MU iG [j,b,a] fun j k=>if al d (e.set d.toNat (PV.agg (i 0::PV.int .i64 g::over [] [i 2,i 3,i 4]))).length then(e.set d.toNat (PV.agg (i 0::PV.int .i64 g::over [] [i 2,i 3,i 4])))[d.toNat]?.bind fun l=>bG (!h) (some !k) fun k=>if k then some (PV.aG [.rs 5 [],.int .i64 10])else f (a,b,c,aq (d+1),(e.set d.toNat (PV.agg (i 0::PV.int .i64 g::over [] [i 2,i 3,i 4]))).set d.toNat (PV.agg (l 0::l 1::PV.int .i64 j::over [] [l 3,l 4])),())else none else none
else some (PV.aG [.rs 5 e,.int .i64 0])
def oA(L:bk)(p0 p1:PV):Option PV:=abw p0 fun _ _ _ _ a=>bL p1 fun b=>if((↑a.length:Int)==0)then some (PV.aG [.rs 5 [],.int .i64 16])else bh a 0 fun c=>ar c 2 fun c=>if 0≤(↑a.length:Int)∧(↑a.length:Int)≤(↑a.length:Int)∧(↑a.length:Int).toNat*32≤ah∧0<32∧0<5 then L.run dW (b,c,(↑(List.take (List.replicate (↑a.length:Int).toNat (PV.agg [.int .i64 0,.int .i64 0,.int .i64 0,.bool false,.bool false])).length a++List.drop a.length (List.replicate (↑a.length:Int).toNat (PV.agg [.int .i64 0,.int .i64 0,.int .i64 0,.bool false,.bool false]))).length:Int),0,List.take (List.replicate (↑a.length:Int).toNat (PV.agg [.int .i64 0,.int .i64 0,.int .i64 0,.bool false,.bool false])).length a++List.drop a.length (List.replicate (↑a.length:Int).toNat (PV.agg [.int .i64 0,.int .i64 0,.int .i64 0,.bool false,.bool false])),())else none
def dI:List PV→Option PV|[p0,p1]=>oA bd p0 p1|_=>none
def uB(L:bk)(p0:PV):Option PV:=Tl p0 fun _ a b c=>bM (decide (a≥0)) (some (decide (a<b))) fun a=>bM a (some (decide (b≤172800))) fun a=>bM a (some (decide (c≥1))) fun a=>bM a (some (decide (c≤86400))) fun a=>some (PV.bool a)
def iH:List PV→Option PV|[p0]=>uB bd p0|_=>none
def ek(qD:apw→Option PV):cG (arq):=fun(a,b,c,d,e,f,g,h,i,j,k,l,_)=>fun m=>bM (decide (b>0)) (if al (aq (b-1)) l.length then l[(aq (b-1)).toNat]?.bind fun n=>ar n 0 fun n=>some (decide (n>a))else none) fun n=>if n then if al (aq (b-1)) l.length then l[(aq (b-1)).toNat]?.bind fun n=>ar n 0 fun n=>GF l b fun _=>m (a,aq (b-1),c,d,e,f,g,h,i,j,k,l.set b.toNat (PV.int .i64 n),())else none else GF l b fun _=>bL k fun n=>qD (aq (c+n),d,e,f,g,h,i,j,k,l.set b.toNat (PV.int .i64 a),())
def gi(L:bk)(uK:apx→Option PV):cG (apw):=fun(a,b,c,d,e,f,g,h,i,j,_)=>fun k=>bL h fun l=>if decide (a<l)then if(j++[PV.int .i64 a]).length*8≤ah∧0<8 then L.run (ek k) (a,(↑j.length:Int),a,b,c,d,e,f,g,h,i,j++[PV.int .i64 a],())else none else uK (b,c,d,aq (e+1),j,())
def kR(L:bk):cG (apx):=fun(a,b,c,d,e,_)=>fun f=>if decide (d<c)then bh b d fun g=>ar g 0 fun h=>if(h !=a)then f (a,b,c,aq (d+1),e,())else cq iH [nL g] fun h=>if(!h)then f (a,b,c,aq (d+1),e,())else ar g 1 fun h=>L.run (gi L f) (h,a,b,c,d,g 0,g 1,g 2,g 3,e,())
else some (PV.rs 1 e)
def nJ(L:bk)(p0 p1:PV):Option PV:=(ao 4 p0).bind fun a=>bL p1 fun b=>L.run (kR L) (b,a,(↑a.length:Int),0,[],())
def gU:List PV→Option PV|[p0,p1]=>nJ bd p0 p1|_=>none
def lJ:cG (Int×List PV×Int×Int×Unit):=fun(a,b,c,d,_)=>fun e=>if decide (d<c)then bh b d fun f=>ar f 0 fun f=>if(f==a)then some (PV.bool true)else e (a,b,c,aq (d+1),())
else some (PV.bool false)
def oX(L:bk)(p0 p1:PV):Option PV:=(ao 4 p0).bind fun a=>bL p1 fun b=>L.run lJ (b,a,(↑a.length:Int),0,())
def ec:List PV→Option PV|[p0,p1]=>oX bd p0 p1|_=>none
def ua(L:bk)(p0 p1 p2:PV):Option PV:=I7 p0 fun _ _ a b c d _ _ _ _ _ _ _=>da 9 p1 (abx p2 fun e _ _ _ _ _ _ _=>if(e== -1)then some (PV.aG [.agg [.int .i64 (-1),.int .i64 (-1),.rs 0 []],.bool true])else some (PV.aG [.agg [.int .i64 0,.int .i64 0,.rs 0 []],.bool false])) fun e f=>abx p2 fun g h i j _ _ _ _=>if(g== -1)then some (PV.aG [.agg [.int .i64 (-1),.int .i64 (-1),.rs 0 []],.bool true])else(Ab.asInt .i64 (cB (PV.str j) (PV.int .i64 0) (e.zip f))).bind fun k=>bG (!yj (PV.str j) (e.zip f)) (some (k !=g)) fun j=>bG j (bh c k fun j=>ar j 2 fun j=>cq lW [.rs 10 a,.rs 3 b,j,h] fun j=>some !j) fun j=>if j then some (PV.aG [.agg [.int .i64 0,.int .i64 0,.rs 0 []],.bool false])else cq ec [.rs 4 d,k] fun j=>if(!j)then bh c k fun j=>eo 5 j 4 fun j=>some (PV.aG [.agg [k,.int .i64 (-1),.rs 5 j],.bool (i==0)])else eP gU [.rs 4 d,k] fun j=>(ao 1 j).bind fun j=>bG (decide (i<0)) (some (decide (i≥(↑j.length:Int)))) fun d=>if d then some (PV.aG [.agg [.int .i64 0,.int .i64 0,.rs 0 []],.bool false])else bh c k fun d=>bh j i fun c=>ar c 0 fun c=>Qy dI [Tj d,c] fun c d=>bh j i fun j=>ar j 0 fun j=>some (PV.aG [.agg [k,j,.rs 5 c],.bool (d==0)])
def lN:List PV→Option PV|[p0,p1,p2]=>ua bd p0 p1 p2|_=>none
def kr:cG (List PV×List PV×Int×Int×Unit):=fun(a,b,c,d,_)=>fun e=>if decide (d<c)then bh a d fun f=>bh b d fun g=>if ahZ [f 0,f 1,f 2,f 3]=true∧ahZ [g 0,g 1,g 2,g 3]then if(!cz [f 0,f 1,f 2,f 3] [g 0,g 1,g 2,g 3])then some (PV.bool false)else e (a,b,c,aq (d+1),())else none
else some (PV.bool true)
def nG(L:bk)(p0 p1:PV):Option PV:=(ao 4 p0).bind fun a=>(ao 4 p1).bind fun b=>if((↑a.length:Int) !=(↑b.length:Int))then some (PV.bool false)else L.run kr (a,b,(↑a.length:Int),0,())
def gQ:List PV→Option PV|[p0,p1]=>nG bd p0 p1|_=>none
def nF(L:bk)(p0 p1 p2:PV):Option PV:=lz 3 p0 fun _=>ar p0 0 fun _=>ar p0 1 fun _=>eo 5 p0 2 fun a=>abx p1 fun _ b _ _ _ _ _ c=>bL p2 fun d=>bG (decide (d≥(↑a.length:Int))) (bh a d fun e=>ar e 0 fun e=>bh c d fun f=>ar f 0 fun f=>some (e !=f)) fun f=>if f then some (PV.int .i64 0)else bh c d fun f=>ar f 2 fun f=>bh a d fun d=>ar d 2 fun d=>some ((aq (f-aq (aq (b*86400)+d))))
def gP:List PV→Option PV|[p0,p1,p2]=>nF bd p0 p1 p2|_=>none
def sa:cG (af5):=fun(a,b,c,d,_)=>fun e=>if decide (c<b)then bh a c fun f=>(aO (f 0)).bind fun f=>e (a,b,aq (c+1),dJ (PV.str f) (PV.int .i64 c) d,())
else some (PV.rm 9 (List.map (fun x=>x.fst) d) (List.map (fun x=>x.snd) d))
def zq(L:bk)(p0:PV):Option PV:=I7 p0 fun _ _ _ _ a _ _ _ _ _ _ _ _=>L.run sa (a,(↑a.length:Int),0,[],())
def oc:List PV→Option PV|[p0]=>zq bd p0|_=>none
def gb:cG (ars):=fun(a,b,c,d,e,f,g,h,i,j,k,l,m,n,o,p,q,r,s,t,u,v,_)=>fun w=>if decide (d<c)then bh b d fun x=>eA x 4 fun y=>bM (y==a) (ar x 0 fun y=>some (y==f)) fun y=>bM y (ar x 1 fun y=>some (y==h)) fun y=>bM y (ar x 2 fun y=>some (y==o)) fun y=>bM y (ar x 3 fun y=>some (y==p)) fun y=>if y then some (d)else w (a,b,c,aq (d+1),e,f,g,h,i,j,k,l,m,n,o,p,q,r,s,t,u,v,())
else some (PV.int .i64 0)
def uV(L:bk)(p0 p1 p2 p3:PV):Option PV:=Kg 34 p0 (yu p1 fun _ _ _ _ _ _ _ _ _=>yu p2 fun _ _ _ _ _ _ _ _ _=>ZE p3 fun _=>none) fun a=>eo 4 a 0 fun _=>eo 3 a 1 fun _=>eo 10 a 2 fun _=>eo 3 a 3 fun _=>eo 5 a 4 fun _=>eo 4 a 5 fun _=>eo 2 a 6 fun _=>eo 3 a 7 fun _=>eo 4 a 8 fun _=>eo 6 a 9 fun _=>ar a 10 fun _=>ar a 11 fun _=>ar a 12 fun _=>eo 4 a 13 fun _=>eo 3 a 14 fun _=>eo 8 a 15 fun _=>eo 5 a 16 fun b=>eo 4 a 17 fun _=>eo 6 a 18 fun _=>ar a 19 fun _=>ar a 20 fun _=>ar a 21 fun _=>ar a 22 fun _=>ar a 23 fun _=>ar a 24 fun _=>eA a 25 fun _=>ar a 26 fun _=>ar a 27 fun _=>eA a 28 fun _=>eA a 29 fun _=>ar a 30 fun _=>eA a 31 fun _=>eo 9 a 32 fun _=>eo 5 a 33 fun _=>yu p1 fun a c d e f g h i j=>yu p2 fun k l m n o p q r s=>ZE p3 fun t=>L.run gb (t,b,(↑b.length:Int),0,a,c,d,e,f,g,h,i,j,k,l,m,n,o,p,q,r,s,())
def gN:List PV→Option PV|[p0,p1,p2,p3]=>uV bd p0 p1 p2 p3|_=>none
def gd:cG (art):=fun(a,b,c,d,e,f,g,h,i,j,k,l,m,_)=>fun n=>if decide (d<c)then bh b d fun o=>ar o 0 fun p=>bM (p==i) (ar o 1 fun p=>some (p==j)) fun p=>bM p (ar o 2 fun p=>some (p==aq (l-k))) fun p=>bM p (eA o 3 fun p=>bG p (eA a 28 fun p=>some !p) fun p=>some p) fun p=>if p then some (d)else n (apn a,b,c,aq (d+1),e,f,g,h,i,j,k,l,m,())
else some (PV.int .i64 0)
def uW(L:bk)(p0 p1:PV):Option PV:=Kg 34 p0 (yu p1 fun _ _ _ _ _ _ _ _ _=>none) fun a=>eo 4 a 0 fun b=>eo 3 a 1 fun c=>eo 10 a 2 fun d=>eo 3 a 3 fun e=>eo 5 a 4 fun f=>eo 4 a 5 fun g=>eo 2 a 6 fun h=>eo 3 a 7 fun i=>eo 4 a 8 fun j=>eo 6 a 9 fun k=>ar a 10 fun l=>ar a 11 fun m=>ar a 12 fun n=>eo 4 a 13 fun o=>eo 3 a 14 fun p=>eo 8 a 15 fun q=>eo 5 a 16 fun r=>eo 4 a 17 fun s=>eo 6 a 18 fun t=>ar a 19 fun u=>ar a 20 fun v=>ar a 21 fun w=>ar a 22 fun x=>ar a 23 fun y=>ar a 24 fun z=>eA a 25 fun A=>ar a 26 fun B=>ar a 27 fun C=>eA a 28 fun D=>eA a 29 fun E=>ar a 30 fun F=>eA a 31 fun G=>eo 9 a 32 fun H=>eo 5 a 33 fun a=>yu p1 fun I J K M N O P Q R=>L.run gd (PV.agg [.rs 4 b,.rs 3 c,.rs 10 d,.rs 3 e,.rs 5 f,.rs 4 g,.rs 2 h,.rs 3 i,.rs 4 j,.rs 6 k,.int .i64 l,.int .i64 m,.int .i64 n,.rs 4 o,.rs 3 p,.rs 8 q,.rs 5 r,.rs 4 s,.rs 6 t,.int .i64 u,.int .i64 v,.int .i64 w,.int .i64 x,.int .i64 y,.int .i64 z,.bool A,.int .i64 B,.int .i64 C,.bool D,.bool E,.int .i64 F,.bool G,.rs 9 H,.rs 5 a],s,(↑s.length:Int),0,I,J,K,M,N,O,P,Q,R,())
def gO:List PV→Option PV|[p0,p1]=>uW bd p0 p1|_=>none
def uf(L:bk)(p0 p1 p2:PV):Option PV:=bL p0 fun a=>bL p1 fun b=>bL p2 fun c=>bM (decide (a≥b)) (some (decide (a≤c))) fun c=>some (PV.bool c)
def bI:List PV→Option PV|[p0,p1,p2]=>uf bd p0 p1 p2|_=>none
def nc:cG (PV×Int×Int×Bool×Unit):=fun(a,b,c,d,_)=>fun e=>if d then if(c==b)then some (PV.bool true)else da 3 a (e (a,b,0,false,())) fun f g=>(Ab.asInt .i64 (cB (PV.int .i64 c) (PV.int .i64 0) (f.zip g))).bind fun h=>e (a,b,h,yj (PV.int .i64 c) (f.zip g),())
else some (PV.bool false)
def zU(L:bk)(p0 p1 p2:PV):Option PV:=da 3 p0 (bL p1 fun _=>bL p2 fun a=>L.run nc (PV.A3,a,0,false,())) fun a b=>bL p1 fun c=>bL p2 fun d=>(Ab.asInt .i64 (cB (PV.int .i64 c) (PV.int .i64 0) (a.zip b))).bind fun e=>L.run nc (PV.rm 3 a b,d,e,yj (PV.int .i64 c) (a.zip b),())
def ou:List PV→Option PV|[p0,p1,p2]=>zU bd p0 p1 p2|_=>none
def MF(L:bk)(p0 p1 p2:PV):Option PV:=bL p0 fun a=>bL p1 fun b=>bL p2 fun c=>some (PV.agg [a,b,c])
def bA:List PV→Option PV|[p0,p1,p2]=>MF bd p0 p1 p2|_=>none
def xh(L:bk)(p0 p1:PV):Option PV:=bL p0 fun a=>bL p1 fun b=>bM (decide (a≥0)) (some (decide (a<b))) fun b=>some (PV.bool b)
def dt:List PV→Option PV|[p0,p1]=>xh bd p0 p1|_=>none
def gT:cG (TY0):=fun(a,b,c,d,e,f,g,h,i,j,k,l,m,n,o,p,q,r,_)=>fun s=>if decide (c<b)then bh a c fun t=>ar t 0 fun u=>cq dt [u,(↑f.length:Int)] fun u=>bG (!u) (ar t 2 fun u=>cq dt [u,(↑f.length:Int)] fun u=>some !u) fun u=>bG u (ar t 0 fun u=>ar t 2 fun v=>some (u==v)) fun v=>if v then eP bA [.int .i64 3,c,.int .i64 9] fun v=>lz 3 v fun _=>some (l9 v)else ar t 0 fun v=>bh f v fun v=>eo 5 v 7 fun v=>ar t 2 fun u=>bh f u fun u=>eo 5 u 7 fun u=>ar t 1 fun w=>cq dt [w,(↑v.length:Int)] fun w=>bG (!w) (ar t 3 fun w=>cq dt [w,(↑u.length:Int)] fun w=>some !w) fun w=>if w then eP bA [.int .i64 3,c,.int .i64 9] fun w=>lz 3 w fun _=>some (l9 w)else ar t 0 fun w=>ar t 1 fun y=>ar t 2 fun z=>ar t 3 fun A=>ar t 0 fun B=>(Ab.asInt .i64 (cB (PV.int .i64 B) (PV.int .i64 0) p)).bind fun _=>ar t 1 fun C=>bh v C fun C=>ar C 0 fun C=>ar t 3 fun D=>bh u D fun D=>ar D 0 fun D=>if(C !=D)then eP bA [.int .i64 3,c,.int .i64 13] fun D=>lz 3 D fun _=>some (l9 D)else eA t 4 fun D=>bM D (ar t 1 fun D=>bG (aq (D+1) !=(↑v.length:Int)) (ar t 3 fun D=>some (D !=0)) fun D=>bG D (some (yj (PV.int .i64 B) p)) fun D=>bG D (ar t 2 fun D=>(Ab.asBool (cB (PV.int .i64 D) (PV.bool false) q)).bind fun D=>some D) fun D=>bG D (ar t 2 fun D=>ar t 0 fun B=>cq ou [PV.rm 3 (List.map (fun x=>x.fst) p) (List.map (fun x=>x.snd) p),D,B] fun B=>some B) fun B=>some B) fun B=>if B then eP bA [.int .i64 3,c,.int .i64 19] fun B=>lz 3 B fun _=>some (l9 B)else(Ab.asBool (cB (PV.agg [w,y,z,A]) (PV.bool false) r)).bind fun B=>if B then eP bA [.int .i64 3,c,.int .i64 6] fun B=>lz 3 B fun _=>some (l9 B)else eA t 4 fun B=>if B then ar t 0 fun B=>ar t 2 fun D=>ar t 2 fun t=>s (a,b,aq (c+1),d,e,f,g,h,i,j,k,l,m,n,o,dJ (PV.int .i64 B) (PV.int .i64 t) p,dJ (PV.int .i64 D) (PV.bool true) q,dJ (PV.agg [w,y,z,A]) (PV.bool true) r,())else s (a,b,aq (c+1),d,e,f,g,h,i,j,k,l,m,n,o,p,q,dJ (PV.agg [w,y,z,A]) (PV.bool true) r,())
else some (PV.agg [.int .i64 0,.int .i64 0,.int .i64 0])
def oS(L:bk)(p0:PV):Option PV:=iE p0 fun a b c d e f g h i=>if decide ((↑d.length:Int)>1024)then eP bA [.int .i64 3,.int .i64 0,.int .i64 5] fun j=>lz 3 j fun _=>some (l9 j)else L.run gT (d,(↑d.length:Int),0,a,b,c,d,e,f,g,h,i,0,0,0,[],[],[],())
def fx:List PV→Option PV|[p0]=>oS bd p0|_=>none
def sb(L:bk)(p0:PV)(c1:PV):Option PV:=bL p0 fun a=>bG (decide (a<0)) (bL c1 fun b=>some (decide (a≥b))) fun b=>some (PV.bool b)
def dV:List PV→Option PV|[p0,PV.rp [c1]]=>sb bd p0 c1|_=>none
def yQ:cG (List PV×Int×Int×Int×Unit):=fun(a,b,c,d,_)=>fun e=>if decide (c<b)then bh a c fun f=>ar f 0 fun f=>cq dV [f,PV.rp [d]] fun f=>if f then some (PV.int .i64 9)else e (a,b,aq (c+1),d,())
else some (PV.int .i64 0)
def qV(L:bk):cG (TY1):=fun(a,b,c,d,e,_)=>fun f=>if decide (d<c)then bh b d fun g=>ar g 0 fun h=>cq dV [h,PV.rp [e]] fun h=>bG h (ar g 1 fun h=>cq dV [h,PV.rp [e]] fun h=>some h) fun h=>if h then some (PV.int .i64 9)else ar g 2 fun h=>bG (decide (h<0)) (ar g 2 fun h=>some (decide (h>1073741824))) fun h=>if h then some (PV.int .i64 2)else f (a,b,c,aq (d+1),e,())
else L.run yQ (a,(↑a.length:Int),0,e,())
def xp(L:bk)(p0 p1 p2:PV):Option PV:=bL p0 fun a=>(ao 3 p1).bind fun b=>(ao 1 p2).bind fun c=>bG (decide (a<0)) (some (decide (a>64))) fun d=>if d then some (PV.int .i64 2)else if decide ((↑b.length:Int)>4096)then some (PV.int .i64 5)else L.run (qV L) (c,b,(↑b.length:Int),0,a,())
def nf:List PV→Option PV|[p0,p1,p2]=>xp bd p0 p1 p2|_=>none
def zX(L:bk)(p0 p1:PV):Option PV:=aby p0 fun _ a b=>aby p1 fun _ c d=>bG (decide (a<c)) (bM (a==c) (some (decide (b<d))) fun d=>some d) fun d=>some (PV.bool d)
def lq:List PV→Option PV|[p0,p1]=>zX bd p0 p1|_=>none
def eG(L:bk)(c01:PV)(c02:PV)(p1 p2:PV):Option PV:=(ao 4 c01).bind fun a=>bL c02 fun _=>bL p1 fun b=>bL p2 fun c=>bh a b fun b=>bh a c fun c=>cq lq [l9 b,l9 c] fun a=>if a then some (PV.bool true)else cq lq [l9 c,l9 b] fun a=>if a then some (PV.bool false)else ar b 3 fun a=>ar c 3 fun c=>some (PV.bool (decide (a<c)))
def bf:List PV→Option PV|[PV.rp [PV.fn 262 [],c01,c02],p1,p2]=>eG bd c01 c02 p1 p2|_=>none
def pd(dR:PV×List PV×Int×List PV×Unit→Option PV):cG (TY2):=fun(a,_,c,d,e,f,_,_,_,j,_)=>fun _=>if decide (d<c)then none
else dR (a,e,f,j,())
def oT(Fx:TY2→Option PV):cG (TY3):=fun(a,b,c,d,e,f,g,h,i,j,k,_)=>fun l=>bM (decide (a>0)) (cq bf [PV.rp [PV.fn 262 [],PV.rs 4 k,f],a,(aq ((aq (a-1)).tdiv 2))] fun m=>some m) fun m=>if m then if al (aq ((aq (a-1)).tdiv 2)) k.length then k[(aq ((aq (a-1)).tdiv 2)).toNat]?.bind fun m=>GF k a fun n=>if al a k.length then k[a.toNat]?.bind fun _=>if al (aq ((aq (a-1)).tdiv 2)) (k.set a.toNat (nL m)).length then(k.set a.toNat (nL m))[(aq ((aq (a-1)).tdiv 2)).toNat]?.bind fun _=>l (aq ((aq (a-1)).tdiv 2),b,c,d,e,f,g,h,i,j,(k.set a.toNat (nL m)).set (aq ((aq (a-1)).tdiv 2)).toNat (nL n),())else none else none else none else Fx (b,c,d,aq (e+1),g,f,h,i,j,k,())
def dh(L:bk)(dR:PV×List PV×Int×List PV×Unit→Option PV):cG (TY2):=fun(a,b,c,d,e,f,g,h,i,j,_)=>fun k=>if decide (d<c)then bh b d fun l=>ar l 1 fun m=>GF e m fun m=>ar m 2 fun m=>if decide (m<0)then ar l 1 fun m=>bL h fun n=>ar l 2 fun l=>bL i fun o=>if(j++[PV.agg [m,(aq (n+l)),(aq (o+1)),f]]).length*32≤ah∧0<32 then L.run (oT k) (aq ((↑(j++[PV.agg [m,(aq (n+l)),(aq (o+1)),f]]).length:Int)-1),a,b,c,d,aq (f+1),e,g,h,i,j++[PV.agg [m,(aq (n+l)),(aq (o+1)),f]],())else none else k (a,b,c,aq (d+1),e,f,g,h,i,j,())
else dR (a,e,f,j,())
def ez(L:bk)(dR:PV×List PV×Int×List PV×Unit→Option PV):cG (TY4):=fun(a,b,c,d,e,f,g,h,i,j,k,_)=>fun l=>if decide (aq (aq (2*a)+1)≥(↑k.length:Int))then bL g fun m=>GF j m fun m=>ar m 2 fun m=>if decide (m≥0)then dR (b,j,c,k,())else bL g fun m=>GF j m fun _=>bL g fun n=>da 3 b (L.run (pd dR) (b,[],(↑0:Int),0,j.set m.toNat (PV.agg [g,h,i]),c,g,h,i,k,())) fun o p=>(ao 3 (cB (PV.int .i64 n) (PV.rs 0 []) (o.zip p))).bind fun p=>L.run (dh L dR) (b,p,(↑p.length:Int),0,j.set m.toNat (PV.agg [g,h,i]),c,g,h,i,k,())
else bM (decide (aq (aq (aq (2*a)+1)+1)<(↑k.length:Int))) (cq bf [PV.rp [PV.fn 262 [],PV.rs 4 k,c],(aq (aq (aq (2*a)+1)+1)),(aq (aq (2*a)+1))] fun p=>some p) fun p=>if p then cq bf [PV.rp [PV.fn 262 [],PV.rs 4 k,c],(aq (aq (aq (2*a)+1)+1)),a] fun p=>if(!p)then bL g fun p=>GF j p fun p=>ar p 2 fun p=>if decide (p≥0)then dR (b,j,c,k,())else bL g fun p=>GF j p fun _=>bL g fun m=>da 3 b (L.run (pd dR) (b,[],(↑0:Int),0,j.set p.toNat (PV.agg [g,h,i]),c,g,h,i,k,())) fun o n=>(ao 3 (cB (PV.int .i64 m) (PV.rs 0 []) (o.zip n))).bind fun n=>L.run (dh L dR) (b,n,(↑n.length:Int),0,j.set p.toNat (PV.agg [g,h,i]),c,g,h,i,k,())else if al (aq (aq (aq (2*a)+1)+1)) k.length then k[(aq (aq (aq (2*a)+1)+1)).toNat]?.bind fun n=>GF k a fun p=>if al a k.length then k[a.toNat]?.bind fun _=>if al (aq (aq (aq (2*a)+1)+1)) (k.set a.toNat (nL n)).length then(k.set a.toNat (nL n))[(aq (aq (aq (2*a)+1)+1)).toNat]?.bind fun _=>l (aq (aq (aq (2*a)+1)+1),b,c,d,e,f,g,h,i,j,(k.set a.toNat (nL n)).set (aq (aq (aq (2*a)+1)+1)).toNat (nL p),())else none else none else none else cq bf [PV.rp [PV.fn 262 [],PV.rs 4 k,c],(aq (aq (2*a)+1)),a] fun p=>if(!p)then bL g fun p=>GF j p fun p=>ar p 2 fun p=>if decide (p≥0)then dR (b,j,c,k,())else bL g fun p=>GF j p fun _=>bL g fun n=>da 3 b (L.run (pd dR) (b,[],(↑0:Int),0,j.set p.toNat (PV.agg [g,h,i]),c,g,h,i,k,())) fun o m=>(ao 3 (cB (PV.int .i64 n) (PV.rs 0 []) (o.zip m))).bind fun m=>L.run (dh L dR) (b,m,(↑m.length:Int),0,j.set p.toNat (PV.agg [g,h,i]),c,g,h,i,k,())else if al (aq (aq (2*a)+1)) k.length then k[(aq (aq (2*a)+1)).toNat]?.bind fun m=>GF k a fun p=>if al a k.length then k[a.toNat]?.bind fun _=>if al (aq (aq (2*a)+1)) (k.set a.toNat (nL m)).length then(k.set a.toNat (nL m))[(aq (aq (2*a)+1)).toNat]?.bind fun _=>l (aq (aq (2*a)+1),b,c,d,e,f,g,h,i,j,(k.set a.toNat (nL m)).set (aq (aq (2*a)+1)).toNat (nL p),())else none else none else none
def fY(L:bk):cG (PV×List PV×Int×List PV×Unit):=fun(a,b,c,d,_)=>fun e=>if((↑d.length:Int)==0)then some (PV.rs 3 b)
else if al 0 d.length then d[Int.toNat 0]?.bind fun f=>if al (aq ((↑d.length:Int)-1)) d.length then d[(aq ((↑d.length:Int)-1)).toNat]?.bind fun g=>if al 0 d.length then d[Int.toNat 0]?.bind fun h=>if al 0 d.length then d[Int.toNat 0]?.bind fun _=>if al (aq ((↑d.length:Int)-1)) (d.set (Int.toNat 0) (nL g)).length then(d.set (Int.toNat 0) (nL g))[(aq ((↑d.length:Int)-1)).toNat]?.bind fun _=>if(0:Int)≤0∧0≤aq ((↑d.length:Int)-1)∧aq ((↑d.length:Int)-1)≤(↑((d.set (Int.toNat 0) (nL g)).set (aq ((↑d.length:Int)-1)).toNat (nL h)).length:Int)∧4=4 then L.run (ez L e) (0,a,c,0,0,0,f 0,f 1,f 2,b,List.take ((aq ((↑d.length:Int)-1)).toNat-Int.toNat 0) ((d.set (Int.toNat 0) (nL g)).set (aq ((↑d.length:Int)-1)).toNat (nL h)),())else none else none else none else none else none else none
def E0(L:bk):cG (TY5):=fun(a,b,c,d,e,_)=>fun f=>bM (decide (a>0)) (cq bf [PV.rp [PV.fn 262 [],PV.rs 4 e,c],a,(aq ((aq (a-1)).tdiv 2))] fun g=>some g) fun g=>if g then if al (aq ((aq (a-1)).tdiv 2)) e.length then e[(aq ((aq (a-1)).tdiv 2)).toNat]?.bind fun g=>GF e a fun h=>if al a e.length then e[a.toNat]?.bind fun _=>if al (aq ((aq (a-1)).tdiv 2)) (e.set a.toNat (nL g)).length then(e.set a.toNat (nL g))[(aq ((aq (a-1)).tdiv 2)).toNat]?.bind fun _=>f (aq ((aq (a-1)).tdiv 2),b,c,d,(e.set a.toNat (nL g)).set (aq ((aq (a-1)).tdiv 2)).toNat (nL h),())else none else none else none else L.run (fY L) (b,d,c,e,())
def jl(L:bk):cG (PV×Int×Int×Int×List PV×Unit):=fun(a,b,c,d,e,_)=>fun f=>if decide (d<c)then GF e d fun _=>f (a,b,c,aq (d+1),e.set d.toNat (PV.agg [d,.int .i64 (-1),.int .i64 (-1)]),())
else L.run (E0 L) (aq ((↑1:Int)-1),a,aq (0+1),e,[PV.agg [b,.int .i64 0,.int .i64 0,.int .i64 0]],())
def uv(L:bk)(p0 p1 p2:PV):Option PV:=bL p0 fun a=>da 3 p1 (bL p2 fun b=>if 0≤a∧a≤a∧a.toNat*24≤ah∧0<24∧0<3 then L.run (jl L) (PV.A3,b,(↑(List.replicate a.toNat (PV.agg [.int .i64 0,.int .i64 0,.int .i64 0])).length:Int),0,List.replicate a.toNat (PV.agg [.int .i64 0,.int .i64 0,.int .i64 0]),())else none) fun b c=>bL p2 fun d=>if 0≤a∧a≤a∧a.toNat*24≤ah∧0<24∧0<3 then L.run (jl L) (PV.rm 3 b c,d,(↑(List.replicate a.toNat (PV.agg [.int .i64 0,.int .i64 0,.int .i64 0])).length:Int),0,List.replicate a.toNat (PV.agg [.int .i64 0,.int .i64 0,.int .i64 0]),())else none
def iA:List PV→Option PV|[p0,p1,p2]=>uv bd p0 p1 p2|_=>none
def nI:cG (List PV×Int×Int×List PV×Unit):=fun(a,b,c,d,_)=>fun e=>if decide (c<b)then bh a c fun f=>ar f 1 fun f=>GF d c fun _=>e (a,b,aq (c+1),d.set c.toNat (PV.int .i64 f),())
else some (PV.rs 1 d)
def sr(L:bk)(p0:PV):Option PV:=(ao 3 p0).bind fun a=>if 0≤(↑a.length:Int)∧(↑a.length:Int)≤(↑a.length:Int)∧(↑a.length:Int).toNat*8≤ah∧0<8∧0<1 then L.run nI (a,(↑a.length:Int),0,List.replicate (↑a.length:Int).toNat (PV.int .i64 0),())else none
def kQ:List PV→Option PV|[p0]=>sr bd p0|_=>none
def lF(L:bk):cG (TY6):=fun(a,b,c,d,e,_)=>fun f=>if decide (d<c)then bh b d fun g=>if a then ar g 1 fun h=>ar g 0 fun i=>(QY 3 (PV.int .i64 h) e).bind fun j=>if(j++[PV.agg [h,i,g 2]]).length*24≤ah∧0<24 then f (a,b,c,aq (d+1),dJ (PV.int .i64 h) (PV.uY 3 (j++[PV.agg [h,i,g 2]])) (Am (PV.int .i64 h) e),())else none else ar g 0 fun j=>ar g 0 fun i=>(QY 3 (PV.int .i64 i) e).bind fun h=>if(h++[l9 g]).length*24≤ah∧0<24 then f (a,b,c,aq (d+1),dJ (PV.int .i64 j) (PV.uY 3 (h++[l9 g])) (Am (PV.int .i64 i) e),())else none
else some (PV.rm 3 (List.map (fun x=>x.fst) e) (List.map (fun x=>x.snd.rS) e))
def oU(L:bk)(p0 p1:PV):Option PV:=(ao 3 p0).bind fun a=>ZE p1 fun b=>L.run (lF L) (b,a,(↑a.length:Int),0,[],())
def iB:List PV→Option PV|[p0,p1]=>oU bd p0 p1|_=>none
def ov:cG (Int×PV×Int×Int×List PV×Unit):=fun(a,b,c,d,e,_)=>fun f=>if decide (d<c)then eP iA [a,b,d] fun g=>(ao 3 g).bind fun g=>eP kQ [.rs 3 g] fun g=>(ao 1 g).bind fun g=>GF e d fun _=>f (a,b,c,aq (d+1),e.set d.toNat (PV.rs 1 g),())
else some (PV.aG [.rs 1 e,.int .i64 0])
def BM(L:bk)(p0 p1:PV):Option PV:=bL p0 fun a=>(ao 3 p1).bind fun b=>pE nf [a,.rs 3 b,.rs 0 []] fun c=>if(c !=0)then some (PV.aG [.rs 1 [],c])else eP iB [.rs 3 b,.bool false] fun c=>da 3 c (if 0≤a∧a≤a∧a.toNat*24≤ah∧0<24∧0<1 then L.run ov (a,PV.A3,(↑(List.replicate a.toNat (PV.rs 0 [])).length:Int),0,List.replicate a.toNat (PV.rs 0 []),())else none) fun c b=>if 0≤a∧a≤a∧a.toNat*24≤ah∧0<24∧0<1 then L.run ov (a,PV.rm 3 c b,(↑(List.replicate a.toNat (PV.rs 0 [])).length:Int),0,List.replicate a.toNat (PV.rs 0 []),())else none
def jX:List PV→Option PV|[p0,p1]=>BM bd p0 p1|_=>none
def eO(L:bk):cG (Int×List PV×List (PV×PV)×Unit):=fun(a,b,c,_)=>fun d=>if c.isEmpty then eP jX [a,.rs 3 b] fun e=>(cn 2 e).bind fun e=>(ao 1 (e.getD 0 .bad)).bind fun f=>mcG e 1 fun _=>some (PV.rs 1 f)
else yA c.length fun f=>c[f]?.bind fun e=>lz 3 e.fst fun _=>bL e.snd fun g=>ar e.fst 0 fun h=>ar e.fst 1 fun e=>if(b++[PV.agg [h,e,g]]).length*24≤ah∧0<24 then d (a,b++[PV.agg [h,e,g]],c.eraseIdx f,())else none
def lG(L:bk):cG (TY7):=fun(a,b,c,d,e,f,_)=>fun g=>if decide (e<d)then bh c e fun h=>bM b (eA h 3 fun i=>some !i) fun i=>if i then g (a,b,c,d,aq (e+1),f,())else ar h 0 fun i=>ar h 1 fun j=>(Ab.asInt .i64 (cB (PV.agg [i,j,.bool false]) (PV.int .i64 0) f)).bind fun k=>bG (!yj (PV.agg [i,j,.bool false]) f) (ar h 2 fun l=>some (decide (l<k))) fun l=>if l then ar h 2 fun l=>g (a,b,c,d,aq (e+1),dJ (PV.agg [i,j,.bool false]) (PV.int .i64 l) f,())else g (a,b,c,d,aq (e+1),f,())
else if f.length≤maxLen then if(0:Int)≤0∧0≤(↑f.length:Int)∧(↑f.length:Int).toNat*24≤ah∧0<24∧0<3 then L.run (eO L) (a,List.replicate (Int.toNat 0) (PV.agg [.int .i64 0,.int .i64 0,.int .i64 0]),f,())else none else none
def oV(L:bk)(p0 p1 p2:PV):Option PV:=(ao 4 p0).bind fun a=>bL p1 fun b=>ZE p2 fun c=>L.run (lG L) (b,c,a,(↑a.length:Int),0,[],())
def fy:List PV→Option PV|[p0,p1,p2]=>oV bd p0 p1 p2|_=>none
def jm(L:bk)(Qt:TY8→Option PV):cG (TY9):=fun(a,b,c,d,e,f,g,h,i,_)=>fun j=>if decide (h<g)then bh f h fun k=>ar k 0 fun k=>if(c==h)then j (a,b,c,d,e,f,g,aq (h+1),i,())else bh b c fun l=>eo 1 l 0 fun l=>bh l h fun l=>ar l 0 fun l=>bM (decide (k>0)) (some (decide (k≤14400))) fun m=>if m then if(i++[PV.agg [c,h,k,.bool (l==k)]]).length*32≤ah∧0<32 then if(l !=k)then bM (decide (l>0)) (some (decide (l≤14400))) fun m=>if m then if(i++[PV.agg [c,h,k,.bool (l==k)]]++[PV.agg [c,h,l,.bool true]]).length*32≤ah∧0<32 then j (a,b,c,d,e,f,g,aq (h+1),i++[PV.agg [c,h,k,.bool (l==k)]]++[PV.agg [c,h,l,.bool true]],())else none else j (a,b,c,d,e,f,g,aq (h+1),i++[PV.agg [c,h,k,.bool (l==k)]],())else j (a,b,c,d,e,f,g,aq (h+1),i++[PV.agg [c,h,k,.bool (l==k)]],())else none else if(l !=k)then bM (decide (l>0)) (some (decide (l≤14400))) fun m=>if m then if(i++[PV.agg [c,h,l,.bool true]]).length*32≤ah∧0<32 then j (a,b,c,d,e,f,g,aq (h+1),i++[PV.agg [c,h,l,.bool true]],())else none else j (a,b,c,d,e,f,g,aq (h+1),i,())else j (a,b,c,d,e,f,g,aq (h+1),i,())
else Qt (a,b,d,aq (e+1),i,())
def jn(L:bk):cG (TY8):=fun(d,e,f,g,h,_)=>fun i=>if decide (g<f)then bh d g fun j=>eo 1 j 0 fun j=>L.run (jm L i) (d,e,g,f,g,j,(↑j.length:Int),0,h,())
else if 4=4∧h.length≤ah∧Nat.blt 236 KA then(C2 4 (fun c a b=>cD [a,b]) h).bind fun apy=>some (PV.rs 4 apy)else none
def su(L:bk)(p0 p1:PV):Option PV:=(ao 4 p0).bind fun a=>bL p1 fun b=>eP fy [.rs 4 a,b,.bool false] fun c=>(ao 1 c).bind fun c=>eP fy [.rs 4 a,b,.bool true] fun b=>(ao 1 b).bind fun b=>L.run (jn L) (c,b,(↑c.length:Int),0,[],())
def gI:List PV→Option PV|[p0,p1]=>su bd p0 p1|_=>none
def qN:cG (apr):=fun(a,b,c,d,e,_)=>fun f=>if decide (d<c)then bh b d fun g=>ar g 0 fun h=>ar g 1 fun i=>eA g 3 fun j=>ar g 0 fun k=>if decide (k<0)then some (PV.aG [d,.int .i64 9])else ar g 0 fun k=>if decide (k≥a)then some (PV.aG [d,.int .i64 9])else ar g 1 fun k=>if decide (k<0)then some (PV.aG [d,.int .i64 9])else ar g 1 fun k=>if decide (k≥a)then some (PV.aG [d,.int .i64 9])else ar g 0 fun k=>ar g 1 fun l=>if(k==l)then some (PV.aG [d,.int .i64 9])else ar g 2 fun l=>if decide (l<1)then some (PV.aG [d,.int .i64 2])else ar g 2 fun l=>if decide (l>14400)then some (PV.aG [d,.int .i64 2])else(Ab.asBool (cB (PV.agg [h,i,.bool j]) (PV.bool false) e)).bind fun l=>if l then some (PV.aG [d,.int .i64 6])else f (a,b,c,aq (d+1),dJ (PV.agg [h,i,.bool j]) (PV.bool true) e,())
else some (PV.aG [.int .i64 0,.int .i64 0])
def xl(L:bk)(p0 p1:PV):Option PV:=(ao 4 p0).bind fun a=>bL p1 fun b=>L.run qN (b,a,(↑a.length:Int),0,[],())
def jV:List PV→Option PV|[p0,p1]=>xl bd p0 p1|_=>none
def mE:cG (List PV×List PV×Int×Int×Unit):=fun(a,b,c,d,_)=>fun e=>if decide (d<c)then bh b d fun f=>bh a d fun g=>if mK (Kd.int .i64::[].append (Kd.int .i64::[].append (Kd.int .i64::[].append (Kd.bool::[].append [])))) [f 0,f 1,f 2,f 3]=true∧mK (Kd.int .i64::[].append (Kd.int .i64::[].append (Kd.int .i64::[].append (Kd.bool::[].append [])))) [g 0,g 1,g 2,g 3]then if(!cz [f 0,f 1,f 2,f 3] [g 0,g 1,g 2,g 3])then some (PV.bool false)else e (a,b,c,aq (d+1),())else none
else some (PV.bool true)
def qO(L:bk)(p0 p1:PV):Option PV:=(ao 4 p0).bind fun a=>bL p1 fun b=>if decide (b>64)then some (PV.bool false)else fC jV [.rs 4 a,b] fun _ c=>if(c !=0)then some (PV.bool false)else eP gI [.rs 4 a,.int .i64 (if 0>b then 0 else b)] fun c=>(ao 4 c).bind fun c=>if((↑c.length:Int) !=(↑a.length:Int))then some (PV.bool false)else L.run mE (a,c,(↑c.length:Int),0,())
def jh:List PV→Option PV|[p0,p1]=>qO bd p0 p1|_=>none
def cU:cG (ahJ):=fun(a,b,c,d,e,f,g,h,i,j,k,l,m,n,o,p,_)=>fun q=>if decide (c<b)then bh a c fun r=>ar r 0 fun s=>ar r 1 fun t=>eA r 3 fun u=>ar r 0 fun v=>cq dt [v,(↑d.length:Int)] fun v=>bG (!v) (ar r 1 fun v=>cq dt [v,(↑d.length:Int)] fun v=>some !v) fun v=>bG v (ar r 0 fun v=>ar r 1 fun w=>some (v==w)) fun w=>if w then eP bA [.int .i64 4,c,.int .i64 9] fun w=>lz 3 w fun _=>some (l9 w)else ar r 2 fun w=>bG (decide (w<1)) (ar r 2 fun w=>some (decide (w>14400))) fun w=>if w then eP bA [.int .i64 4,c,.int .i64 2] fun w=>lz 3 w fun _=>some (l9 w)else(Ab.asBool (cB (PV.agg [s,t,.int .i64 0,.bool u]) (PV.bool false) p)).bind fun w=>if w then eP bA [.int .i64 4,c,.int .i64 6] fun w=>lz 3 w fun _=>some (l9 w)else q (a,b,aq (c+1),d,e,f,g,h,i,j,k,l,m,n,o,dJ (PV.agg [s,t,.int .i64 0,.bool u]) (PV.bool true) p,())
else cq jh [.rs 4 h,(↑d.length:Int)] fun w=>if(!w)then eP bA [.int .i64 4,.int .i64 0,.int .i64 18] fun w=>lz 3 w fun _=>some (l9 w)else some (PV.agg [.int .i64 0,.int .i64 0,.int .i64 0])
def oR(L:bk)(p0:PV):Option PV:=iE p0 fun a b c d e f g h i=>L.run cU (e,(↑e.length:Int),0,a,b,c,d,e,f,g,h,i,0,0,0,[],())
def dg:List PV→Option PV|[p0]=>oR bd p0|_=>none
def Mq(L:bk)(p0 p1 p2 p3 p4:PV):Option PV:=(ao 5 p0).bind fun a=>bL p1 fun b=>bL p2 fun c=>bL p3 fun d=>bL p4 fun e=>bh a b fun f=>ar f 0 fun g=>bG (decide (g<0)) (ar f 0 fun g=>some (decide (g≥c))) fun g=>if g then some (PV.int .i64 9)else bM (decide (b>0)) (bh a (aq (b-1)) fun g=>ar g 0 fun g=>ar f 0 fun c=>some (g==c)) fun c=>if c then some (PV.int .i64 13)else ar f 1 fun c=>bG (decide (c<d)) (ar f 1 fun c=>ar f 2 fun d=>some (decide (c>d))) fun d=>bG d (ar f 2 fun d=>some (decide (d>e))) fun d=>bG d (bM (decide (b>0)) (ar f 1 fun d=>bh a (aq (b-1)) fun b=>ar b 2 fun b=>some (decide (d<b))) fun b=>some b) fun b=>if b then some (PV.int .i64 10)else some (PV.int .i64 0)
def BI:List PV→Option PV|[p0,p1,p2,p3,p4]=>Mq bd p0 p1 p2 p3 p4|_=>none
def zR:cG (aps):=fun(a,b,c,d,e,f,_)=>fun g=>if decide (f<e)then pE BI [.rs 5 a,f,b,c,d] fun h=>if(h !=0)then some (PV.aG [f,h])else g (a,b,c,d,e,aq (f+1),())
else some (PV.aG [.int .i64 0,.int .i64 0])
def Gh(L:bk)(p0 p1 p2 p3:PV):Option PV:=(ao 5 p0).bind fun a=>bL p1 fun b=>bL p2 fun c=>bL p3 fun d=>bG (decide ((↑a.length:Int)<2)) (some (decide ((↑a.length:Int)>32))) fun e=>if e then some (PV.aG [.int .i64 0,.int .i64 5])else L.run zR (a,b,c,d,(↑a.length:Int),0,())
def qM:List PV→Option PV|[p0,p1,p2,p3]=>Gh bd p0 p1 p2 p3|_=>none
def xb:cG (Bytes×Int×Unit):=fun(a,b,_)=>fun c=>if decide (b<(↑(List.length a):Int))then(QX a b).bind fun d=>bM (decide (97≤(↑d.toNat:Int))) (some (decide ((↑d.toNat:Int)≤122))) fun e=>if e then c (a,aq (b+1),())else bM (decide (65≤(↑d.toNat:Int))) (some (decide ((↑d.toNat:Int)≤90))) fun e=>if e then c (a,aq (b+1),())else bM (decide (48≤(↑d.toNat:Int))) (some (decide ((↑d.toNat:Int)≤57))) fun e=>if e then c (a,aq (b+1),())else if((↑d.toNat:Int)==45)then c (a,aq (b+1),())else if((↑d.toNat:Int)==95)then c (a,aq (b+1),())else if((↑d.toNat:Int)==46)then c (a,aq (b+1),())else some (PV.bool false)
else bM (decide ((↑(List.length a):Int)>0)) (some (decide ((↑(List.length a):Int)≤32))) fun e=>some (PV.bool e)
def Dt(L:bk)(p0:PV):Option PV:=(aO p0).bind fun a=>L.run xb (a,0,())
def fh:List PV→Option PV|[p0]=>Dt bd p0|_=>none
def iy:cG (ahJ):=fun(a,b,c,d,e,f,g,h,i,j,k,l,m,n,o,p,_)=>fun q=>if decide (c<b)then bh a c fun r=>(aO (r 3)).bind fun s=>cq fh [.str s] fun s=>if(!s)then eP bA [.int .i64 2,c,.int .i64 12] fun s=>lz 3 s fun _=>some (l9 s)else ar r 0 fun s=>bG (decide (s< -1)) (ar r 2 fun s=>some (decide (s<0))) fun s=>if s then eP bA [.int .i64 2,c,.int .i64 2] fun s=>lz 3 s fun _=>some (l9 s)else ar r 1 fun s=>bG (decide (s<0)) (ar r 1 fun s=>some (decide (s>36524))) fun s=>if s then eP bA [.int .i64 2,c,.int .i64 11] fun s=>lz 3 s fun _=>some (l9 s)else ar r 4 fun s=>bG (decide (s<0)) (ar r 4 fun s=>some (decide (s≥(↑e.length:Int)))) fun s=>if s then eP bA [.int .i64 2,c,.int .i64 9] fun s=>lz 3 s fun _=>some (l9 s)else eo 5 r 7 fun s=>fC qM [.rs 5 s,(↑d.length:Int),.int .i64 0,.int .i64 3155932800] fun _ s=>if(s !=0)then eP bA [.int .i64 2,c,s] fun s=>lz 3 s fun _=>some (l9 s)else(aO (r 3)).bind fun s=>ar r 1 fun t=>ar r 2 fun r=>(Ab.asBool (cB (PV.agg [.str s,t,r]) (PV.bool false) p)).bind fun u=>if u then eP bA [.int .i64 2,c,.int .i64 6] fun u=>lz 3 u fun _=>some (l9 u)else q (a,b,aq (c+1),d,e,f,g,h,i,j,k,l,m,n,o,dJ (PV.agg [.str s,t,r]) (PV.bool true) p,())
else some (PV.agg [.int .i64 0,.int .i64 0,.int .i64 0])
def qQ(L:bk)(p0:PV):Option PV:=iE p0 fun a b c d e f g h i=>if decide ((↑c.length:Int)>1024)then eP bA [.int .i64 2,.int .i64 0,.int .i64 5] fun j=>lz 3 j fun _=>some (l9 j)else L.run iy (c,(↑c.length:Int),0,a,b,c,d,e,f,g,h,i,0,0,0,[],())
def jj:List PV→Option PV|[p0]=>qQ bd p0|_=>none
def nd:cG (aps):=fun(a,b,c,d,e,f,_)=>fun g=>if decide (c<b)then bh a c fun h=>ar h 2 fun i=>if(i !=0)then some (l9 h)else g (a,b,aq (c+1),d,e,f,())
else some (PV.agg [.int .i64 0,.int .i64 0,.int .i64 0])
def zV(L:bk)(p0:PV):Option PV:=(ao 3 p0).bind fun a=>L.run nd (a,(↑a.length:Int),0,0,0,0,())
def eD:List PV→Option PV|[p0]=>zV bd p0|_=>none
def xe(L:bk)(p0 p1 p2:PV):Option PV:=bL p0 fun a=>bL p1 fun b=>bL p2 fun c=>bM (decide (a≥b)) (some (decide (a≤c))) fun c=>some (PV.bool c)
def cv:List PV→Option PV|[p0,p1,p2]=>xe bd p0 p1 p2|_=>none
def so:cG (af5):=fun(a,b,c,d,_)=>fun e=>if decide (c<b)then bh a c fun f=>(aO (f 0)).bind fun g=>cq fh [.str g] fun g=>if(!g)then some (PV.aG [c,.int .i64 12])else(aO (f 0)).bind fun g=>(Ab.asBool (cB (PV.str g) (PV.bool false) d)).bind fun g=>if g then some (PV.aG [c,.int .i64 6])else ar f 1 fun g=>cq cv [g,.int .i64 0,.int .i64 1000000] fun g=>bG (!g) (ar f 2 fun g=>cq cv [g,.int .i64 1,.int .i64 8] fun g=>some !g) fun g=>bG g (ar f 3 fun g=>cq cv [g,.int .i64 1,.int .i64 16] fun g=>some !g) fun g=>bG g (ar f 4 fun g=>cq cv [g,.int .i64 0,.int .i64 86400] fun g=>some !g) fun g=>bG g (ar f 5 fun g=>cq cv [g,.int .i64 1,.int .i64 255] fun g=>some !g) fun g=>if g then some (PV.aG [c,.int .i64 2])else(aO (f 0)).bind fun g=>e (a,b,aq (c+1),dJ (PV.str g) (PV.bool true) d,())
else some (PV.aG [.int .i64 0,.int .i64 0])
def zQ(L:bk)(p0:PV):Option PV:=MV p0 fun a b c d=>cq cv [b,.int .i64 0,.int .i64 1000000] fun b=>bG (!b) (cq cv [c,.int .i64 0,.int .i64 86400] fun b=>some !b) fun b=>bG b (cq cv [d,.int .i64 0,.int .i64 1000000] fun b=>some !b) fun b=>if b then some (PV.aG [.int .i64 (-1),.int .i64 2])else if decide ((↑a.length:Int)>16)then some (PV.aG [.int .i64 0,.int .i64 5])else L.run so (a,(↑a.length:Int),0,[],())
def dO:List PV→Option PV|[p0]=>zQ bd p0|_=>none
def Dy(L:bk)(p0:PV):Option PV:=bL p0 fun a=>bM (decide (a≥0)) (some (decide (a<8))) fun a=>some (PV.bool a)
def zP:List PV→Option PV|[p0]=>Dy bd p0|_=>none
def xd:cG (af5):=fun(a,b,c,d,_)=>fun e=>if decide (c<b)then bh a c fun f=>(aO (f 0)).bind fun g=>cq fh [.str g] fun g=>if(!g)then some (PV.aG [c,.int .i64 12])else(aO (f 0)).bind fun g=>(Ab.asBool (cB (PV.str g) (PV.bool false) d)).bind fun g=>if g then some (PV.aG [c,.int .i64 6])else ar f 1 fun g=>cq zP [g] fun g=>if(!g)then some (PV.aG [c,.int .i64 2])else(aO (f 0)).bind fun g=>e (a,b,aq (c+1),dJ (PV.str g) (PV.bool true) d,())
else some (PV.aG [.int .i64 0,.int .i64 0])
def Dx(L:bk)(p0:PV):Option PV:=(ao 3 p0).bind fun a=>if decide ((↑a.length:Int)>64)then some (PV.aG [.int .i64 0,.int .i64 5])else L.run xd (a,(↑a.length:Int),0,[],())
def nV:List PV→Option PV|[p0]=>Dx bd p0|_=>none
def zO:cG (af5):=fun(a,b,c,d,_)=>fun e=>if decide (c<b)then bh a c fun f=>(aO (f 0)).bind fun g=>cq fh [.str g] fun g=>if(!g)then some (PV.aG [c,.int .i64 12])else(aO (f 0)).bind fun g=>(Ab.asBool (cB (PV.str g) (PV.bool false) d)).bind fun g=>if g then some (PV.aG [c,.int .i64 6])else ar f 1 fun g=>bG (decide (g<0)) (ar f 1 fun g=>some (decide (g≥16))) fun g=>bG g (ar f 3 fun g=>some (decide (g<0))) fun g=>bG g (ar f 3 fun g=>some (decide (g>3600))) fun g=>if g then some (PV.aG [c,.int .i64 2])else(aO (f 0)).bind fun g=>e (a,b,aq (c+1),dJ (PV.str g) (PV.bool true) d,())
else some (PV.aG [.int .i64 0,.int .i64 0])
def Gg(L:bk)(p0:PV):Option PV:=(ao 4 p0).bind fun a=>if decide ((↑a.length:Int)>64)then some (PV.aG [.int .i64 0,.int .i64 5])else L.run zO (a,(↑a.length:Int),0,[],())
def qI:List PV→Option PV|[p0]=>Gg bd p0|_=>none
def zW(L:bk)(p0:PV):Option PV:=iE p0 fun a b c d e f g h i=>fC qI [.rs 4 a] fun j k=>fC nV [.rs 3 b] fun l m=>eP bA [.int .i64 0,j,k] fun k=>lz 3 k fun _=>eP bA [.int .i64 1,l,m] fun m=>lz 3 m fun _=>eP eD [.rs 3 [l9 k,l9 m]] fun m=>lz 3 m fun _=>ar m 2 fun k=>if(k==0)then eP jj [eY a b c d e f g h i] fun k=>lz 3 k fun _=>ar k 2 fun l=>if(l==0)then eP fx [eY a b c d e f g h i] fun l=>lz 3 l fun _=>ar l 2 fun j=>if(j==0)then fC dO [.agg [.rs 6 f,g,h,i]] fun j n=>eP dg [eY a b c d e f g h i] fun o=>lz 3 o fun _=>eP bA [.int .i64 5,j,n] fun n=>lz 3 n fun _=>eP eD [.rs 3 [l9 o,l9 n]] fun n=>aby n fun n o j=>some (PV.aG [n,o,j])else ar l 0 fun j=>ar l 1 fun o=>ar l 2 fun l=>some (PV.aG [j,o,l])else ar k 2 fun l=>if(l==0)then fC dO [.agg [.rs 6 f,g,h,i]] fun l o=>eP dg [eY a b c d e f g h i] fun j=>lz 3 j fun _=>eP bA [.int .i64 5,l,o] fun o=>lz 3 o fun _=>eP eD [.rs 3 [l9 j,l9 o]] fun o=>aby o fun o j l=>some (PV.aG [o,j,l])else ar k 0 fun l=>ar k 1 fun j=>ar k 2 fun k=>some (PV.aG [l,j,k])else ar m 2 fun k=>if(k==0)then eP fx [eY a b c d e f g h i] fun k=>lz 3 k fun _=>ar k 2 fun j=>if(j==0)then fC dO [.agg [.rs 6 f,g,h,i]] fun j l=>eP dg [eY a b c d e f g h i] fun o=>lz 3 o fun _=>eP bA [.int .i64 5,j,l] fun l=>lz 3 l fun _=>eP eD [.rs 3 [l9 o,l9 l]] fun l=>aby l fun l o j=>some (PV.aG [l,o,j])else ar k 0 fun j=>ar k 1 fun o=>ar k 2 fun k=>some (PV.aG [j,o,k])else ar m 2 fun k=>if(k==0)then fC dO [.agg [.rs 6 f,g,h,i]] fun k o=>eP dg [eY a b c d e f g h i] fun i=>lz 3 i fun _=>eP bA [.int .i64 5,k,o] fun o=>lz 3 o fun _=>eP eD [.rs 3 [l9 i,l9 o]] fun o=>aby o fun o i k=>some (PV.aG [o,i,k])else ar m 0 fun k=>ar m 1 fun i=>ar m 2 fun m=>some (PV.aG [k,i,m])
def fS:List PV→Option PV|[p0]=>zW bd p0|_=>none
def jd(L:bk)(p0 p1:PV):Option PV:=iE p0 fun a b c d e f g h i=>yw p1 fun j k l m n o _ _ p q=>abv fS [eY a b c d e f g h i] fun _ _ i=>if(i !=0)then some (PV.int .i64 21)else cq bI [j,.int .i64 0,(aq ((↑a.length:Int)-1))] fun i=>bG (!i) (cq bI [k,.int .i64 0,(aq ((↑a.length:Int)-1))] fun i=>some !i) fun i=>bG i (cq bI [l,.int .i64 0,.int .i64 3155932800] fun i=>some !i) fun i=>bG i (cq bI [n,.int .i64 0,.int .i64 8] fun i=>some !i) fun i=>bG i (cq bI [o,.int .i64 0,.int .i64 86400] fun i=>some !i) fun i=>bG i (cq bI [p,.int .i64 0,.int .i64 255] fun i=>some !i) fun i=>bG i (bM q (some m) fun i=>some i) fun i=>if i then some (PV.int .i64 22)else some (PV.int .i64 0)
def dK:List PV→Option PV|[p0,p1]=>jd bd p0 p1|_=>none
def Dm(L:bk)(p0 p1:PV):Option PV:=MV p0 fun _ _ _ a=>bL p1 fun b=>bM (decide (a>0)) (some (decide (b>a))) fun c=>if c then some (a)else some (b)
def sW:List PV→Option PV|[p0,p1]=>Dm bd p0 p1|_=>none
def sm(L:bk)(p0 p1 p2:PV):Option PV:=lz 7 p0 fun _=>eA p0 0 fun a=>ar p0 1 fun b=>ar p0 2 fun c=>ar p0 3 fun _=>ar p0 4 fun _=>ar p0 5 fun _=>ar p0 6 fun _=>bL p1 fun d=>bL p2 fun e=>bG (!a) (some (decide (d<b))) fun a=>bG a (bM (d==b) (some (decide (e<c))) fun a=>some a) fun a=>some (PV.bool a)
def kO:List PV→Option PV|[p0,p1,p2]=>sm bd p0 p1 p2|_=>none
def Dl(L:bk)(p0 p1 p2:PV):Option PV:=bL p0 fun a=>bL p1 fun b=>bL p2 fun c=>bG (decide (b≤a)) (some (decide (IntKind.u64.wrap (IntKind.u64.wrap b-IntKind.u64.wrap a)≤IntKind.u64.wrap c))) fun c=>some (PV.bool c)
def sV:List PV→Option PV|[p0,p1,p2]=>Dl bd p0 p1 p2|_=>none
def sl(L:bk)(p0 p1 p2 p3:PV):Option PV:=MV p0 fun _ a b _=>Tm p1 fun _ c _ _ _ _=>(ao 4 p2).bind fun d=>bL p3 fun e=>bM (decide (e>0)) (bh d (aq (e-1)) fun f=>ar f 1 fun f=>bh d e fun e=>ar e 0 fun e=>cq sV [f,e,b] fun e=>some e) fun e=>if e then some (PV.int .i64 (if aq (c-a)>0 then aq (c-a)else 0))else some (c)
def kN:List PV→Option PV|[p0,p1,p2,p3]=>sl bd p0 p1 p2 p3|_=>none
def sk(L:bk)(p0 p1:PV):Option PV:=(Ab.asInt IntKind.u64 p0).bind fun a=>(Ab.asInt IntKind.u64 p1).bind fun b=>some (PV.int IntKind.u64 (IntKind.u64.wrap (↑(BitVec.ofInt IntKind.u64.bits a|||BitVec.ofInt IntKind.u64.bits b).toNat:Int)))
def gH:List PV→Option PV|[p0,p1]=>sk bd p0 p1|_=>none
def qy(L:bk)(p0 p1:PV):Option PV:=(Ab.asInt IntKind.u64 p0).bind fun a=>(Ab.asInt IntKind.u64 p1).bind fun b=>some (PV.bool (IntKind.u64.wrap (↑(BitVec.ofInt IntKind.u64.bits a&&& ~~~BitVec.ofInt IntKind.u64.bits b).toNat:Int)==0))
def je:List PV→Option PV|[p0,p1]=>qy bd p0 p1|_=>none
def zL(L:bk)(p0 p1 p2:PV):Option PV:=bL p0 fun a=>bL p1 fun b=>bL p2 fun c=>if decide (b≥a)then bG (decide (c<0)) (some (decide (IntKind.u64.wrap (IntKind.u64.wrap b-IntKind.u64.wrap a)>IntKind.u64.wrap c))) fun d=>some (PV.bool d)else bM (decide (c<0)) (some (decide (IntKind.u64.wrap (IntKind.u64.wrap a-IntKind.u64.wrap b)<IntKind.u64.wrap (0-IntKind.u64.wrap c)))) fun d=>some (PV.bool d)
def oi:List PV→Option PV|[p0,p1,p2]=>zL bd p0 p1 p2|_=>none
def qz:cG (aq6):=fun(a,b,c,d,e,f,g,h,i,j,k,_)=>fun l=>if decide (c<b)then bh a c fun m=>ar m 2 fun n=>eP gH [.int IntKind.u64 j,.int IntKind.u64 (IntKind.u64.wrap n)] fun n=>(Ab.asInt IntKind.u64 n).bind fun n=>ar m 3 fun m=>eP gH [.int IntKind.u64 k,.int IntKind.u64 (IntKind.u64.wrap m)] fun m=>(Ab.asInt IntKind.u64 m).bind fun m=>l (a,b,aq (c+1),d,e,f,g,h,i,n,m,())
else pE RO [.int IntKind.u64 j] fun m=>bM (decide (m≤g)) (cq je [.int IntKind.u64 k,.int IntKind.u64 (IntKind.u64.wrap i)] fun m=>some m) fun m=>some (PV.bool m)
def wV(L:bk)(p0 p1:PV):Option PV:=Tm p0 fun a b c d e f=>(ao 4 p1).bind fun g=>bG ((↑g.length:Int)==0) (some (decide ((↑g.length:Int)>c))) fun h=>bG h (bh g 0 fun h=>ar h 0 fun h=>bh g (aq ((↑g.length:Int)-1)) fun i=>ar i 0 fun i=>cq oi [h,i,e] fun i=>some i) fun i=>if i then some (PV.bool false)else L.run qz (g,(↑g.length:Int),0,a,b,c,d,e,f,0,0,())
def jT:List PV→Option PV|[p0,p1]=>wV bd p0 p1|_=>none
def qE(L:bk)(qD:ajQ→Option PV):cG (aq7):=fun(a,b,c,d,e,f,g,h,i,j,k,l,_)=>fun m=>if decide (e<d)then if al (aq (c+1)) 9∧0<7 then k[(aq (c+1)).toNat+0]?.bind fun n=>eA n 0 fun n=>if n then bh f e fun n=>if 0≤b∧b≤aq (c+1)∧aq (c+1)≤(↑l.length:Int)∧4=4∧4≠0 then cq jT [af1 n,.rs 4 (List.drop b.toNat (List.take (aq (c+1)).toNat l))] fun n=>if(!n)then m (a,b,c,d,aq (e+1),f,g,h,i,j,k,l,())else bh f e fun n=>pE kN [.agg [.rs 6 f,g,h,i],af1 n,.rs 4 l,b] fun n=>if al (aq (c+1)) 9∧0<7 then k[(aq (c+1)).toNat+0]?.bind fun o=>ar o 1 fun o=>if al (aq (c+1)) 9∧0<7 then k[(aq (c+1)).toNat+0]?.bind fun p=>ar p 2 fun p=>if al b 9∧0<7 then k[b.toNat+0]?.bind fun q=>cq kO [VU q,(aq (n+o)),(aq (p+1))] fun q=>if q then if al b 9∧0<7 then k[b.toNat+0]?.bind fun _=>m (a,b,c,d,aq (e+1),f,g,h,i,j,k.set (b.toNat+0) (PV.agg [.bool true,(aq (n+o)),(aq (p+1)),e,b,c,n]),l,())else none else m (a,b,c,d,aq (e+1),f,g,h,i,j,k,l,())else none else none else none else none else m (a,b,c,d,aq (e+1),f,g,h,i,j,k,l,())else none
else qD (a,b,aq (c+1),f,g,h,i,j,k,l,())
def qF(L:bk)(Qb:ajR→Option PV):cG (ajQ):=fun(a,b,c,d,e,f,g,h,i,j,_)=>fun k=>if decide (c<a)then L.run (qE L k) (a,b,c,(↑d.length:Int),0,d,e,f,g,h,i,j,())
else Qb (a,aq (b-1),d,e,f,g,h,i,j,())
def wY(L:bk):cG (ajR):=fun(a,b,c,d,e,f,g,h,i,_)=>fun j=>if decide (b≥0)then L.run (qF L j) (a,b,b,c,d,e,f,g,h,i,())
else if h.length*7=63 then(Ab.asAgg 63 (PV.agg (gy 7 h))).bind fun _=>if g.length*7=63∧0<63 then if(fZ 7 g.length (PV.agg (gy 7 h))).length*7=63 then some (PV.agg (gy 7 (fZ 7 g.length (PV.agg (gy 7 h)))))else none else none else none
def Dp(L:bk)(p0 p1:PV):Option PV:=MV p0 fun a b c d=>(ao 4 p1).bind fun e=>if al (↑e.length:Int) 9∧0<7 then(fZ 7 9 (PV.agg [.bool false,.int .i64 0,.int .i64 0,.int .i64 0,.int .i64 0,.int .i64 0,.int .i64 0,.bool false,.int .i64 0,.int .i64 0,.int .i64 0,.int .i64 0,.int .i64 0,.int .i64 0,.bool false,.int .i64 0,.int .i64 0,.int .i64 0,.int .i64 0,.int .i64 0,.int .i64 0,.bool false,.int .i64 0,.int .i64 0,.int .i64 0,.int .i64 0,.int .i64 0,.int .i64 0,.bool false,.int .i64 0,.int .i64 0,.int .i64 0,.int .i64 0,.int .i64 0,.int .i64 0,.bool false,.int .i64 0,.int .i64 0,.int .i64 0,.int .i64 0,.int .i64 0,.int .i64 0,.bool false,.int .i64 0,.int .i64 0,.int .i64 0,.int .i64 0,.int .i64 0,.int .i64 0,.bool false,.int .i64 0,.int .i64 0,.int .i64 0,.int .i64 0,.int .i64 0,.int .i64 0,.bool false,.int .i64 0,.int .i64 0,.int .i64 0,.int .i64 0,.int .i64 0,.int .i64 0]))[(↑e.length:Int).toNat+0]?.bind fun f=>L.run (wY L) ((↑e.length:Int),aq ((↑e.length:Int)-1),a,b,c,d,fZ 7 9 (PV.agg [.bool false,.int .i64 0,.int .i64 0,.int .i64 0,.int .i64 0,.int .i64 0,.int .i64 0,.bool false,.int .i64 0,.int .i64 0,.int .i64 0,.int .i64 0,.int .i64 0,.int .i64 0,.bool false,.int .i64 0,.int .i64 0,.int .i64 0,.int .i64 0,.int .i64 0,.int .i64 0,.bool false,.int .i64 0,.int .i64 0,.int .i64 0,.int .i64 0,.int .i64 0,.int .i64 0,.bool false,.int .i64 0,.int .i64 0,.int .i64 0,.int .i64 0,.int .i64 0,.int .i64 0,.bool false,.int .i64 0,.int .i64 0,.int .i64 0,.int .i64 0,.int .i64 0,.int .i64 0,.bool false,.int .i64 0,.int .i64 0,.int .i64 0,.int .i64 0,.int .i64 0,.int .i64 0,.bool false,.int .i64 0,.int .i64 0,.int .i64 0,.int .i64 0,.int .i64 0,.int .i64 0,.bool false,.int .i64 0,.int .i64 0,.int .i64 0,.int .i64 0,.int .i64 0,.int .i64 0]),(fZ 7 9 (PV.agg [.bool false,.int .i64 0,.int .i64 0,.int .i64 0,.int .i64 0,.int .i64 0,.int .i64 0,.bool false,.int .i64 0,.int .i64 0,.int .i64 0,.int .i64 0,.int .i64 0,.int .i64 0,.bool false,.int .i64 0,.int .i64 0,.int .i64 0,.int .i64 0,.int .i64 0,.int .i64 0,.bool false,.int .i64 0,.int .i64 0,.int .i64 0,.int .i64 0,.int .i64 0,.int .i64 0,.bool false,.int .i64 0,.int .i64 0,.int .i64 0,.int .i64 0,.int .i64 0,.int .i64 0,.bool false,.int .i64 0,.int .i64 0,.int .i64 0,.int .i64 0,.int .i64 0,.int .i64 0,.bool false,.int .i64 0,.int .i64 0,.int .i64 0,.int .i64 0,.int .i64 0,.int .i64 0,.bool false,.int .i64 0,.int .i64 0,.int .i64 0,.int .i64 0,.int .i64 0,.int .i64 0,.bool false,.int .i64 0,.int .i64 0,.int .i64 0,.int .i64 0,.int .i64 0,.int .i64 0])).set ((↑e.length:Int).toNat+0) (PV.agg (PV.bool true::over [] [f 1,f 2,f 3,f 4,f 5,f 6])),e,())else none
def sX:List PV→Option PV|[p0,p1]=>Dp bd p0 p1|_=>none
def BD(L:bk)(p0 p1:PV):Option PV:=MV p0 fun a b c d=>(ao 4 p1).bind fun e=>fC dO [.agg [.rs 6 a,b,c,d]] fun _ d=>if(d !=0)then some (PV.int .i64 20)else if decide ((↑e.length:Int)>8)then some (PV.int .i64 33)else some (PV.int .i64 0)
def na:List PV→Option PV|[p0,p1]=>BD bd p0 p1|_=>none
def lv(L:bk):cG (aq8):=fun(a,b,c,d,e,f,g,h,_)=>fun i=>if decide (b<(↑a.length:Int))then if al b 9∧0<7 then g[b.toNat+0]?.bind fun j=>if(h++[PV.agg [j 3,j 4,j 5,j 6]]).length*32≤ah∧0<32 then if al b 9∧0<7 then g[b.toNat+0]?.bind fun k=>ar k 5 fun k=>i (a,aq (k+1),c,d,e,f,g,h++[PV.agg [j 3,j 4,j 5,j 6]],())else none else none else none
else g[Int.toNat 0+0]?.bind fun k=>ar k 1 fun k=>pE sW [.agg [.rs 6 c,d,e,f],k] fun k=>some (PV.aG [k,.rs 4 h,.int .i64 0])
def BF(L:bk)(p0 p1:PV):Option PV:=MV p0 fun a b c d=>(ao 4 p1).bind fun e=>pE na [.agg [.rs 6 a,b,c,d],.rs 4 e] fun f=>if(f !=0)then some (PV.aG [.int .i64 0,.rs 4 [],f])else eP sX [.agg [.rs 6 a,b,c,d],.rs 4 e] fun f=>lz 63 f fun _=>eA f 0 fun g=>if(!g)then some (PV.aG [.int .i64 0,.rs 4 [],.int .i64 34])else L.run (lv L) (e,0,a,b,c,d,fZ 7 9 (apo f),[],())
def kP:List PV→Option PV|[p0,p1]=>BF bd p0 p1|_=>none
def Gc(L:bk)(p0:PV):Option PV:=bL p0 fun a=>bG (decide (a<0)) (some (decide (a>63))) fun b=>if b then some (PV.int IntKind.u64 0)else if a<0 then none else some (PV.int IntKind.u64 (IntKind.u64.wrap (1*2^min a.toNat IntKind.u64.bits)))
def qx:List PV→Option PV|[p0]=>Gc bd p0|_=>none
def Hs:cG (Int×List PV×Int×Int×Unit):=fun(a,b,c,d,_)=>fun e=>if decide (d<c)then bh b d fun f=>ar f 0 fun f=>eP qx [f] fun f=>(Ab.asInt IntKind.u64 f).bind fun f=>e (IntKind.u64.wrap (↑(BitVec.ofInt IntKind.u64.bits a|||BitVec.ofInt IntKind.u64.bits f).toNat:Int),b,c,aq (d+1),())
else some (PV.int IntKind.u64 a)
def IE(L:bk)(p0:PV):Option PV:=(ao 1 p0).bind fun a=>L.run Hs (0,a,(↑a.length:Int),0,())
def yI:List PV→Option PV|[p0]=>IE bd p0|_=>none
def wT(L:bk)(p0 p1:PV):Option PV:=iE p0 fun _ _ a _ _ _ _ _ _=>yu p1 fun _ b c d _ _ _ _ _=>bM (decide (0≤b)) (some (decide (b<(↑a.length:Int)))) fun e=>bM e (some (decide (0≤c))) fun e=>bM e (some (decide (c<d))) fun e=>bM e (bh a b fun e=>eo 5 e 7 fun e=>some (decide (d<(↑e.length:Int)))) fun e=>some (PV.bool e)
def mZ:List PV→Option PV|[p0,p1]=>wT bd p0 p1|_=>none
def uo(L:bk)(p0 p1:PV):Option PV:=(Ab.asInt IntKind.u64 p0).bind fun a=>bL p1 fun b=>eP qx [b] fun b=>(Ab.asInt IntKind.u64 b).bind fun b=>some (PV.int IntKind.u64 (IntKind.u64.wrap (↑(BitVec.ofInt IntKind.u64.bits a|||BitVec.ofInt IntKind.u64.bits b).toNat:Int)))
def lQ:List PV→Option PV|[p0,p1]=>uo bd p0 p1|_=>none
def sg:cG (aq9):=fun(a,b,c,d,e,f,g,h,i,j,k,l,m,_)=>fun n=>if decide (d<c)then bh b d fun o=>ar o 0 fun o=>bh e o fun o=>ar o 1 fun o=>eP lQ [.int IntKind.u64 a,o] fun o=>(Ab.asInt IntKind.u64 o).bind fun o=>n (o,b,c,aq (d+1),e,f,g,h,i,j,k,l,m,())
else some (PV.int IntKind.u64 a)
def zK(L:bk)(p0 p1:PV):Option PV:=iE p0 fun a b c d e f g h i=>yu p1 fun _ j k l _ _ _ _ _=>bh c j fun j=>eo 5 j 7 fun j=>if 0≤k∧k≤aq (l+1)∧aq (l+1)≤(↑j.length:Int)∧5=5∧5≠0 then L.run sg (0,List.drop k.toNat (List.take (aq (l+1)).toNat j),(↑(List.drop k.toNat (List.take (aq (l+1)).toNat j)).length:Int),0,a,b,c,d,e,f,g,h,i,())else none
def oh:List PV→Option PV|[p0,p1]=>zK bd p0 p1|_=>none
def sj(L:bk):cG (ara):=fun(a,b,c,d,e,f,g,h,i,j,k,l,m,n,_)=>fun o=>if decide (d<c)then bh b d fun p=>eA p 0 fun q=>bM q (cq mZ [eY e f g h i j k l m,Cv p] fun q=>some !q) fun q=>if q then some (PV.aG [.rs 4 [],.int .i64 9])else eA p 8 fun q=>bM q (eA p 0 fun q=>bG (!q) (some !a) fun q=>some q) fun q=>if q then some (PV.aG [.rs 4 [],.int .i64 19])else eA p 0 fun q=>if q then eP oh [eY e f g h i j k l m,Cv p] fun q=>(Ab.asInt IntKind.u64 q).bind fun q=>ar p 1 fun r=>bh g r fun r=>ar r 4 fun r=>bh f r fun r=>ar r 1 fun r=>eP yI [.rs 1 [r]] fun r=>(Ab.asInt IntKind.u64 r).bind fun r=>eA p 8 fun s=>if(!s)then ar p 6 fun s=>ar p 7 fun t=>if(n++[PV.agg [s,t,(aq q),(aq r)]]).length*32≤ah∧0<32 then eA p 0 fun u=>o (u,b,c,aq (d+1),e,f,g,h,i,j,k,l,m,n++[PV.agg [s,t,(aq q),(aq r)]],())else none else if al (aq ((↑n.length:Int)-1)) n.length then ar p 7 fun u=>n[(aq ((↑n.length:Int)-1)).toNat]?.bind fun t=>(n.set (aq ((↑n.length:Int)-1)).toNat (PV.agg (t 0::PV.int .i64 u::over [] [t 2,t 3])))[(aq ((↑n.length:Int)-1)).toNat]?.bind fun s=>ar s 2 fun s=>(n.set (aq ((↑n.length:Int)-1)).toNat (PV.agg (t 0::PV.int .i64 u::over [] [t 2,t 3])))[(aq ((↑n.length:Int)-1)).toNat]?.bind fun v=>((n.set (aq ((↑n.length:Int)-1)).toNat (PV.agg (t 0::PV.int .i64 u::over [] [t 2,t 3]))).set (aq ((↑n.length:Int)-1)).toNat (PV.agg (v 0::v 1::PV.int .i64 (aq (↑(BitVec.ofInt IntKind.i64.bits s|||BitVec.ofInt IntKind.i64.bits (aq q)).toNat:Int))::over [] [v 3])))[(aq ((↑n.length:Int)-1)).toNat]?.bind fun w=>ar w 3 fun w=>((n.set (aq ((↑n.length:Int)-1)).toNat (PV.agg (t 0::PV.int .i64 u::over [] [t 2,t 3]))).set (aq ((↑n.length:Int)-1)).toNat (PV.agg (v 0::v 1::PV.int .i64 (aq (↑(BitVec.ofInt IntKind.i64.bits s|||BitVec.ofInt IntKind.i64.bits (aq q)).toNat:Int))::over [] [v 3])))[(aq ((↑n.length:Int)-1)).toNat]?.bind fun x=>eA p 0 fun y=>o (y,b,c,aq (d+1),e,f,g,h,i,j,k,l,m,((n.set (aq ((↑n.length:Int)-1)).toNat (PV.agg (t 0::PV.int .i64 u::over [] [t 2,t 3]))).set (aq ((↑n.length:Int)-1)).toNat (PV.agg (v 0::v 1::PV.int .i64 (aq (↑(BitVec.ofInt IntKind.i64.bits s|||BitVec.ofInt IntKind.i64.bits (aq q)).toNat:Int))::over [] [v 3]))).set (aq ((↑n.length:Int)-1)).toNat (PV.agg (x 0::x 1::x 2::PV.int .i64 (aq (↑(BitVec.ofInt IntKind.i64.bits w|||BitVec.ofInt IntKind.i64.bits (aq r)).toNat:Int))::over [] [])),())else none else eA p 0 fun y=>o (y,b,c,aq (d+1),e,f,g,h,i,j,k,l,m,n,())
else some (PV.aG [.rs 4 n,.int .i64 0])
def sR(L:bk)(p0 p1:PV):Option PV:=iE p0 fun a b c d e f g h i=>lz 1 p1 fun _=>eo 9 p1 0 fun j=>abv fS [eY a b c d e f g h i] fun _ _ k=>if(k !=0)then some (PV.aG [.rs 4 [],.int .i64 21])else L.run (sj L) (false,j,(↑j.length:Int),0,a,b,c,d,e,f,g,h,i,[],())
def ig:List PV→Option PV|[p0,p1]=>sR bd p0 p1|_=>none
def uk:cG (Int×List PV×Int×Int×Unit):=fun(a,b,c,d,_)=>fun e=>if decide (d<c)then bh b d fun f=>eA f 0 fun g=>bG g (ar f 6 fun g=>some (decide (g<0))) fun g=>bG g (ar f 7 fun g=>ar f 6 fun h=>some (decide (g<h))) fun h=>bG h (ar f 7 fun h=>ar f 6 fun g=>some (decide (aq (h-g)>14400))) fun g=>if g then e (a,b,c,aq (d+1),())else ar f 7 fun g=>ar f 6 fun f=>e (aq (a+aq (g-f)),b,c,aq (d+1),())
else some (a)
def Bz(L:bk)(p0:PV):Option PV:=lz 1 p0 fun _=>eo 9 p0 0 fun a=>L.run uk (0,a,(↑a.length:Int),0,())
def jP:List PV→Option PV|[p0]=>Bz bd p0|_=>none
def vn(L:bk)(p0 p1 p2:PV):Option PV:=iE p0 fun a b c d e f g h i=>yw p1 fun _ _ j _ _ _ _ _ _ _=>lz 1 p2 fun _=>eo 9 p2 0 fun k=>apk ig [eY a b c d e f g h i,.agg [.rs 9 k]] fun e d=>if(d !=0)then some (PV.aG [.agg [.int .i64 0,.int .i64 0,.int .i64 0,.int .i64 0,.int .i64 0],.rs 4 [],d])else eP kP [.agg [.rs 6 f,g,h,i],.rs 4 e] fun d=>(cn 3 d).bind fun d=>mcG d 0 fun i=>(ao 4 (d.getD 1 .bad)).bind fun h=>mcG d 2 fun d=>if(d !=0)then some (PV.aG [.agg [.int .i64 0,.int .i64 0,.int .i64 0,.int .i64 0,.int .i64 0],.rs 4 [],d])else pE jP [.agg [.rs 9 k]] fun d=>if decide ((↑k.length:Int)>0)then bh k 0 fun g=>ar g 6 fun g=>bh k (aq ((↑k.length:Int)-1)) fun k=>ar k 7 fun k=>some (PV.aG [.agg [g,k,(↑e.length:Int),i,d],.rs 4 h,.int .i64 0])else some (PV.aG [.agg [j,j,(↑e.length:Int),i,d],.rs 4 h,.int .i64 0])
def fu:List PV→Option PV|[p0,p1,p2]=>vn bd p0 p1 p2|_=>none
def od:cG (arb):=fun(a,b,c,d,e,f,g,h,i,j,k,l,m,n,o,p,q,r,s,t,u,v,w,y,z,A,B,C,D,E,F,G,H,_)=>fun x=>if decide (d<c)then bh b d fun I=>eA I 0 fun J=>bM J (eA I 8 fun J=>some !J) fun J=>if J then x (aq (a+1),b,c,aq (d+1),e,f,g,h,i,j,k,l,m,n,o,p,q,r,s,t,u,v,w,y,z,A,B,C,D,E,F,G,H,())else x (a,b,c,aq (d+1),e,f,g,h,i,j,k,l,m,n,o,p,q,r,s,t,u,v,w,y,z,A,B,C,D,E,F,G,H,())
else bL E fun J=>if(J !=o)then some (PV.int .i64 24)else bM q (bL G fun J=>some (decide (J>p))) fun J=>if J then some (PV.int .i64 10)else if decide (a>r)then some (PV.int .i64 33)else pE jP [.agg [.rs 9 y]] fun J=>if decide (J>s)then some (PV.int .i64 32)else eP fu [eY e f g h i j k l m,uL n o p q r s t u v w,.agg [.rs 9 y]] fun J=>(cn 3 J).bind fun J=>(Ab.asAgg 5 (J.getD 0 .bad)).bind fun _=>(ao 4 (J.getD 1 .bad)).bind fun _=>mcG J 2 fun J=>some (J)
def vo(L:bk)(p0 p1 p2:PV):Option PV:=iE p0 fun a b c d e f g h i=>yw p1 fun j k l m n o p q r s=>lz 1 p2 fun _=>eo 9 p2 0 fun t=>bh t (aq ((↑t.length:Int)-1)) fun u=>L.run od (0,t,(↑t.length:Int),0,a,b,c,d,e,f,g,h,i,j,k,l,m,n,o,p,q,r,s,t,u 0,u 1,u 2,u 3,u 4,u 5,u 6,u 7,u 8,())
def jO:List PV→Option PV|[p0,p1,p2]=>vo bd p0 p1 p2|_=>none
def mz(L:bk)(p0:PV):Option PV:=uX p0 fun _ _ _ _ _ _ _ _ _ _ _ _ _ _ _ _ _ _ _ a b=>bh a b fun b=>some (Cv b)
def aT:List PV→Option PV|[p0]=>mz bd p0|_=>none
def gY(L:bk)(p0:PV):Option PV:=uX p0 fun _ _ _ _ _ _ _ _ _ _ _ _ _ _ _ _ _ _ _ a b=>bh a (aq (b-1)) fun b=>some (Cv b)
def cm:List PV→Option PV|[p0]=>gY bd p0|_=>none
def gF:cG (arc):=fun(a,b,c,d,e,f,g,h,i,j,k,l,m,n,o,p,q,r,s,t,u,v,_)=>fun w=>if decide (d<c)then bh b d fun x=>eA x 4 fun y=>bM (y==a) (ar x 0 fun y=>bL f fun z=>some (y==z)) fun z=>bM z (ar x 1 fun z=>bL h fun y=>some (z==y)) fun y=>bM y (ar x 2 fun y=>bL o fun z=>some (y==z)) fun z=>bM z (ar x 3 fun z=>bL p fun x=>some (z==x)) fun x=>if x then some (PV.bool true)else w (a,b,c,aq (d+1),e,f,g,h,i,j,k,l,m,n,o,p,q,r,s,t,u,v,())
else some (PV.bool false)
def jR(L:bk)(p0 p1:PV):Option PV:=uX p0 fun a b c d e f g h i j k l m n o p q r s t u=>ZE p1 fun v=>eP cm [mG a b c d e f g h i j k l m n o p q r s t u] fun w=>lz 9 w fun _=>eP aT [mG a b c d e f g h i j k l m n o p q r s t u] fun u=>lz 9 u fun _=>L.run gF (v,d,(↑d.length:Int),0,w 0,w 1,w 2,w 3,w 4,w 5,w 6,w 7,w 8,u 0,u 1,u 2,u 3,u 4,u 5,u 6,u 7,u 8,())
def dx:List PV→Option PV|[p0,p1]=>jR bd p0 p1|_=>none
def jS(L:bk)(p0:PV):Option PV:=uX p0 fun a b c d e f g h i j k l m n o p q r s t u=>bif NO false (u==0)then eP aT [mG a b c d e f g h i j k l m n o p q r s t u] fun v=>lz 9 v fun _=>eA v 0 fun v=>bif NO false !v then eP aT [mG a b c d e f g h i j k l m n o p q r s t u] fun v=>lz 9 v fun _=>eA v 8 fun v=>if v then some (PV.int .i64 0)else eP cm [mG a b c d e f g h i j k l m n o p q r s t u] fun v=>lz 9 v fun _=>eP aT [mG a b c d e f g h i j k l m n o p q r s t u] fun w=>lz 9 w fun _=>eA v 0 fun x=>if(!x)then ar w 6 fun x=>ar v 7 fun y=>if decide (x<y)then some (PV.int .i64 28)else some (PV.int .i64 0)else ar w 6 fun y=>ar v 7 fun x=>ar w 4 fun z=>bh a z fun z=>ar z 3 fun z=>bG (decide (y≥aq (x+z))) (ar w 6 fun z=>ar v 7 fun v=>bM (decide (z≥v)) (cq dx [mG a b c d e f g h i j k l m n o p q r s t u,.bool false] fun v=>some v) fun v=>some v) fun v=>if v then some (PV.int .i64 0)else some (PV.int .i64 28)else some (PV.int .i64 0)else some (PV.int .i64 0)
def dy:List PV→Option PV|[p0]=>jS bd p0|_=>none
def gh(L:bk)(p0:PV):Option PV:=uX p0 fun a b c d e f g h i j k l m n o p q r s t u=>if decide (u>0)then some (PV.int .i64 0)else eP aT [mG a b c d e f g h i j k l m n o p q r s t u] fun u=>lz 9 u fun _=>ar u 4 fun r=>if(r !=j)then some (PV.int .i64 24)else eA u 8 fun r=>if r then some (PV.int .i64 19)else eA u 0 fun r=>bM (!r) (some !(↑t.length:Int)==1) fun r=>bM r (bh t 1 fun r=>eA r 0 fun r=>some r) fun r=>bM r (bh t 1 fun r=>ar r 6 fun r=>ar u 7 fun q=>some (r !=q)) fun q=>if q then some (PV.int .i64 10)else eA u 0 fun q=>bM (!q) (some ((↑t.length:Int)==1)) fun q=>bM q (bM (!m) (ar u 6 fun q=>some (q !=l)) fun q=>bG q (bM m (ar u 7 fun q=>some (q !=l)) fun q=>some q) fun q=>some q) fun q=>if q then some (PV.int .i64 10)else bM (!m) (ar u 6 fun q=>some (decide (q<l))) fun q=>if q then some (PV.int .i64 10)else bM (!m) (some s) fun q=>bM q (eA u 0 fun q=>some q) fun q=>bM q (ar u 6 fun q=>bh a j fun j=>ar j 3 fun j=>some (decide (q<aq (l+j)))) fun j=>if j then some (PV.int .i64 28)else some (PV.int .i64 0)
def cP:List PV→Option PV|[p0]=>gh bd p0|_=>none
end
end Go.Ab
