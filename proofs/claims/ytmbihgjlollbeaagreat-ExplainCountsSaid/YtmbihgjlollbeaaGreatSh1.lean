import Derived.Test.YtmbihgjlollbeaaGreatAbSortK
import Derived.Test.YtmbihgjlollbeaaGreatAbPop
set_option linter.unusedVariables false
set_option maxHeartbeats 4000000
namespace Go.Ab
noncomputable section
abbrev iM(T:Type):=T→(T→Option PV)→Option PV
structure eL(R:Type)(n:Nat)
instance {R:Type}:CoeFun (eL R 0) (fun _=>(List PV→Option PV)→List PV→(Int→Bool→Option R)→Option R):=⟨fun _=>fun f l k=>(f l).bind fun r=>(dq 2 r).bind fun vs=>(Ab.asInt .i64 (vs.getD 0 .bad)).bind fun v0=>(Ab.asBool (vs.getD 1 .bad)).bind fun v1=>k v0 v1⟩
variable{R:Type}
abbrev XS:eL R 0:=⟨⟩
instance {R:Type}:CoeFun (eL R 1) (fun _=>(List PV→Option PV)→List PV→(Int→Int→Option R)→Option R):=⟨fun _=>fun f l k=>(f l).bind fun r=>(dq 2 r).bind fun vs=>(Ab.asInt .i64 (vs.getD 0 .bad)).bind fun v0=>(Ab.asInt .i64 (vs.getD 1 .bad)).bind fun v1=>k v0 v1⟩
abbrev kD:eL R 1:=⟨⟩
instance {R:Type}:CoeFun (eL R 2) (fun _=>(List PV→Option PV)→List PV→(List PV→Int→Option R)→Option R):=⟨fun _=>fun f l k=>(f l).bind fun r=>(dq 2 r).bind fun vs=>(aw 5 (vs.getD 0 .bad)).bind fun v0=>(Ab.asInt .i64 (vs.getD 1 .bad)).bind fun v1=>k v0 v1⟩
abbrev S4:eL R 2:=⟨⟩
instance {R:Type}:CoeFun (eL R 3) (fun _=>(List PV→Option PV)→List PV→(Bytes→Int→Option R)→Option R):=⟨fun _=>fun f l k=>(f l).bind fun r=>(dq 2 r).bind fun vs=>(bG (vs.getD 0 .bad)).bind fun v0=>(Ab.asInt .i64 (vs.getD 1 .bad)).bind fun v1=>k v0 v1⟩
abbrev ads:eL R 3:=⟨⟩
instance {R:Type}:CoeFun (eL R 4) (fun _=>(List PV→Option PV)→List PV→(Int→Int→Int→Option R)→Option R):=⟨fun _=>fun f l k=>(f l).bind fun r=>(dq 3 r).bind fun vs=>(Ab.asInt .i64 (vs.getD 0 .bad)).bind fun v0=>(Ab.asInt .i64 (vs.getD 1 .bad)).bind fun v1=>(Ab.asInt .i64 (vs.getD 2 .bad)).bind fun v2=>k v0 v1 v2⟩
abbrev aac:eL R 4:=⟨⟩
instance:CoeFun (eL Unit 5) (fun _=>PV→PV):=⟨fun _=>fun p=>.agg [cell p 0,cell p 1,cell p 2]⟩
abbrev j8:eL Unit 5:=⟨⟩
instance:CoeFun (eL Unit 6) (fun _=>PV→PV):=⟨fun _=>fun p=>.agg [cell p 0,cell p 1,cell p 2,cell p 3]⟩
abbrev od:eL Unit 6:=⟨⟩
instance:CoeFun (eL Unit 7) (fun _=>PV→PV):=⟨fun _=>fun p=>.agg [cell p 0,cell p 1,cell p 2,cell p 3,cell p 4]⟩
abbrev S5:eL Unit 7:=⟨⟩
instance:CoeFun (eL Unit 8) (fun _=>PV→PV):=⟨fun _=>fun p=>.agg [cell p 0,cell p 1,cell p 2,cell p 3,cell p 4,cell p 5]⟩
abbrev agy:eL Unit 8:=⟨⟩
instance:CoeFun (eL Unit 9) (fun _=>PV→PV):=⟨fun _=>fun p=>.agg [cell p 0,cell p 1,cell p 2,cell p 3,cell p 4,cell p 5,cell p 6]⟩
abbrev OL:eL Unit 9:=⟨⟩
instance:CoeFun (eL Unit 10) (fun _=>PV→PV):=⟨fun _=>fun p=>.agg [cell p 0,cell p 1,cell p 2,cell p 3,cell p 4,cell p 5,cell p 6,cell p 7]⟩
abbrev aii:eL Unit 10:=⟨⟩
instance:CoeFun (eL Unit 11) (fun _=>PV→PV):=⟨fun _=>fun p=>.agg [cell p 0,cell p 1,cell p 2,cell p 3,cell p 4,cell p 5,cell p 6,cell p 7,cell p 8]⟩
abbrev DG:eL Unit 11:=⟨⟩
instance:CoeFun (eL Unit 12) (fun _=>PV→PV):=⟨fun _=>fun p=>.agg [cell p 0,cell p 1,cell p 2,cell p 3,cell p 4,cell p 5,cell p 6,cell p 7,cell p 8,cell p 9,cell p 10,cell p 11,cell p 12]⟩
abbrev XT:eL Unit 12:=⟨⟩
instance:CoeFun (eL Unit 13) (fun _=>PV→PV):=⟨fun _=>fun p=>.agg [cell p 0,cell p 1,cell p 2,cell p 3,cell p 4,cell p 5,cell p 6,cell p 7,cell p 8,cell p 9,cell p 10,cell p 11,cell p 12,cell p 13,cell p 14,cell p 15,cell p 16,cell p 17,cell p 18,cell p 19,cell p 20,cell p 21,cell p 22,cell p 23,cell p 24,cell p 25,cell p 26,cell p 27,cell p 28,cell p 29,cell p 30,cell p 31,cell p 32,cell p 33]⟩
abbrev agz:eL Unit 13:=⟨⟩
instance:CoeFun (eL Unit 14) (fun _=>PV→PV):=⟨fun _=>fun p=>.agg [cell p 0,cell p 1,cell p 2,cell p 3,cell p 4,cell p 5,cell p 6,cell p 7,cell p 8,cell p 9,cell p 10,cell p 11,cell p 12,cell p 13,cell p 14,cell p 15,cell p 16,cell p 17,cell p 18,cell p 19,cell p 20,cell p 21,cell p 22,cell p 23,cell p 24,cell p 25,cell p 26,cell p 27,cell p 28,cell p 29,cell p 30,cell p 31,cell p 32,cell p 33,cell p 34,cell p 35,cell p 36,cell p 37,cell p 38,cell p 39,cell p 40,cell p 41,cell p 42,cell p 43,cell p 44,cell p 45,cell p 46,cell p 47,cell p 48,cell p 49,cell p 50,cell p 51,cell p 52,cell p 53,cell p 54,cell p 55,cell p 56,cell p 57,cell p 58,cell p 59,cell p 60,cell p 61,cell p 62]⟩
abbrev agA:eL Unit 14:=⟨⟩
instance:CoeFun (eL Unit 15) (fun _=>List PV→Bool):=⟨fun _=>fun l=>lN (Kd.int .i64::[].append (Kd.int .i64::[].append (Kd.int .i64::[].append []))) l⟩
abbrev agB:eL Unit 15:=⟨⟩
instance:CoeFun (eL Unit 16) (fun _=>List PV→Bool):=⟨fun _=>fun l=>lN (Kd.int .i64::[].append (Kd.int .i64::[].append (Kd.int .i64::[].append (Kd.int .i64::[].append [])))) l⟩
abbrev agC:eL Unit 16:=⟨⟩
instance:CoeFun (eL Unit 17) (fun _=>List PV→Bool):=⟨fun _=>fun l=>lN (Kd.int .i64::[].append (Kd.int .i64::[].append (Kd.int .i64::[].append (Kd.int .i64::[].append (Kd.int .i64::[].append []))))) l⟩
abbrev S6:eL Unit 17:=⟨⟩
instance {R:Type}:CoeFun (eL R 18) (fun _=>PV→(Int→Int→Int→Bool→Option R)→Option R):=⟨fun _=>fun p k=>(Ab.asAgg 4 p).bind fun _=>(Ab.asInt .i64 (cell p 0)).bind fun v0=>(Ab.asInt .i64 (cell p 1)).bind fun v1=>(Ab.asInt .i64 (cell p 2)).bind fun v2=>(Ab.asBool (cell p 3)).bind fun v3=>k v0 v1 v2 v3⟩
abbrev agD:eL R 18:=⟨⟩
instance {R:Type}:CoeFun (eL R 19) (fun _=>PV→(Bytes→Int→Int→Bool→List PV→Option R)→Option R):=⟨fun _=>fun p k=>(Ab.asAgg 5 p).bind fun _=>(bG (cell p 0)).bind fun v0=>(Ab.asInt .i64 (cell p 1)).bind fun v1=>(Ab.asInt .i64 (cell p 2)).bind fun v2=>(Ab.asBool (cell p 3)).bind fun v3=>(aw 5 (cell p 4)).bind fun v4=>k v0 v1 v2 v3 v4⟩
abbrev aad:eL R 19:=⟨⟩
instance {R:Type}:CoeFun (eL R 20) (fun _=>PV→(Int→Int→Int→Int→Option R)→Option R):=⟨fun _=>fun p k=>(Ab.asAgg 4 p).bind fun _=>(Ab.asInt .i64 (cell p 0)).bind fun v0=>(Ab.asInt .i64 (cell p 1)).bind fun v1=>(Ab.asInt .i64 (cell p 2)).bind fun v2=>(Ab.asInt .i64 (cell p 3)).bind fun v3=>k v0 v1 v2 v3⟩
abbrev S7:eL R 20:=⟨⟩
instance {R:Type}:CoeFun (eL R 21) (fun _=>PV→(List PV→List PV→List PV→List PV→List PV→List PV→List PV→List PV→List PV→List PV→Int→Int→Int→Option R)→Option R):=⟨fun _=>fun p k=>(Ab.asAgg 13 p).bind fun _=>(aw 4 (cell p 0)).bind fun v0=>(aw 3 (cell p 1)).bind fun v1=>(aw 10 (cell p 2)).bind fun v2=>(aw 3 (cell p 3)).bind fun v3=>(aw 5 (cell p 4)).bind fun v4=>(aw 4 (cell p 5)).bind fun v5=>(aw 2 (cell p 6)).bind fun v6=>(aw 3 (cell p 7)).bind fun v7=>(aw 4 (cell p 8)).bind fun v8=>(aw 6 (cell p 9)).bind fun v9=>(Ab.asInt .i64 (cell p 10)).bind fun v10=>(Ab.asInt .i64 (cell p 11)).bind fun v11=>(Ab.asInt .i64 (cell p 12)).bind fun v12=>k v0 v1 v2 v3 v4 v5 v6 v7 v8 v9 v10 v11 v12⟩
abbrev S8:eL R 21:=⟨⟩
instance {R:Type}:CoeFun (eL R 22) (fun _=>PV→(Int→Int→Int→Bytes→Int→Bool→Bool→List PV→Option R)→Option R):=⟨fun _=>fun p k=>(Ab.asAgg 8 p).bind fun _=>(Ab.asInt .i64 (cell p 0)).bind fun v0=>(Ab.asInt .i64 (cell p 1)).bind fun v1=>(Ab.asInt .i64 (cell p 2)).bind fun v2=>(bG (cell p 3)).bind fun v3=>(Ab.asInt .i64 (cell p 4)).bind fun v4=>(Ab.asBool (cell p 5)).bind fun v5=>(Ab.asBool (cell p 6)).bind fun v6=>(aw 5 (cell p 7)).bind fun v7=>k v0 v1 v2 v3 v4 v5 v6 v7⟩
abbrev aae:eL R 22:=⟨⟩
instance {R:Type}:CoeFun (eL R 23) (fun _=>PV→(Bool→Int→Int→Int→Int→Int→Int→Int→Bool→Option R)→Option R):=⟨fun _=>fun p k=>(Ab.asAgg 9 p).bind fun _=>(Ab.asBool (cell p 0)).bind fun v0=>(Ab.asInt .i64 (cell p 1)).bind fun v1=>(Ab.asInt .i64 (cell p 2)).bind fun v2=>(Ab.asInt .i64 (cell p 3)).bind fun v3=>(Ab.asInt .i64 (cell p 4)).bind fun v4=>(Ab.asInt .i64 (cell p 5)).bind fun v5=>(Ab.asInt .i64 (cell p 6)).bind fun v6=>(Ab.asInt .i64 (cell p 7)).bind fun v7=>(Ab.asBool (cell p 8)).bind fun v8=>k v0 v1 v2 v3 v4 v5 v6 v7 v8⟩
abbrev GX:eL R 23:=⟨⟩
instance {R:Type}:CoeFun (eL R 24) (fun _=>PV→(List PV→List PV→List PV→List PV→List PV→List PV→Int→Int→Int→Option R)→Option R):=⟨fun _=>fun p k=>(Ab.asAgg 9 p).bind fun _=>(aw 4 (cell p 0)).bind fun v0=>(aw 3 (cell p 1)).bind fun v1=>(aw 8 (cell p 2)).bind fun v2=>(aw 5 (cell p 3)).bind fun v3=>(aw 4 (cell p 4)).bind fun v4=>(aw 6 (cell p 5)).bind fun v5=>(Ab.asInt .i64 (cell p 6)).bind fun v6=>(Ab.asInt .i64 (cell p 7)).bind fun v7=>(Ab.asInt .i64 (cell p 8)).bind fun v8=>k v0 v1 v2 v3 v4 v5 v6 v7 v8⟩
abbrev wC:eL R 24:=⟨⟩
instance {R:Type}:CoeFun (eL R 25) (fun _=>PV→(Int→Int→Int→Option R)→Option R):=⟨fun _=>fun p k=>(Ab.asAgg 3 p).bind fun _=>(Ab.asInt .i64 (cell p 0)).bind fun v0=>(Ab.asInt .i64 (cell p 1)).bind fun v1=>(Ab.asInt .i64 (cell p 2)).bind fun v2=>k v0 v1 v2⟩
abbrev S9:eL R 25:=⟨⟩
instance {R:Type}:CoeFun (eL R 26) (fun _=>PV→(List PV→Int→Int→Int→Option R)→Option R):=⟨fun _=>fun p k=>(Ab.asAgg 4 p).bind fun _=>(aw 6 (cell p 0)).bind fun v0=>(Ab.asInt .i64 (cell p 1)).bind fun v1=>(Ab.asInt .i64 (cell p 2)).bind fun v2=>(Ab.asInt .i64 (cell p 3)).bind fun v3=>k v0 v1 v2 v3⟩
abbrev Ta:eL R 26:=⟨⟩
instance {R:Type}:CoeFun (eL R 27) (fun _=>PV→(Int→Int→Int→Bool→Int→Int→Bool→Bool→Int→Bool→Option R)→Option R):=⟨fun _=>fun p k=>(Ab.asAgg 10 p).bind fun _=>(Ab.asInt .i64 (cell p 0)).bind fun v0=>(Ab.asInt .i64 (cell p 1)).bind fun v1=>(Ab.asInt .i64 (cell p 2)).bind fun v2=>(Ab.asBool (cell p 3)).bind fun v3=>(Ab.asInt .i64 (cell p 4)).bind fun v4=>(Ab.asInt .i64 (cell p 5)).bind fun v5=>(Ab.asBool (cell p 6)).bind fun v6=>(Ab.asBool (cell p 7)).bind fun v7=>(Ab.asInt .i64 (cell p 8)).bind fun v8=>(Ab.asBool (cell p 9)).bind fun v9=>k v0 v1 v2 v3 v4 v5 v6 v7 v8 v9⟩
abbrev OM:eL R 27:=⟨⟩
instance {R:Type}:CoeFun (eL R 28) (fun _=>PV→(Bytes→Int→Int→Int→Int→Int→Option R)→Option R):=⟨fun _=>fun p k=>(Ab.asAgg 6 p).bind fun _=>(bG (cell p 0)).bind fun v0=>(Ab.asInt .i64 (cell p 1)).bind fun v1=>(Ab.asInt .i64 (cell p 2)).bind fun v2=>(Ab.asInt .i64 (cell p 3)).bind fun v3=>(Ab.asInt .i64 (cell p 4)).bind fun v4=>(Ab.asInt .i64 (cell p 5)).bind fun v5=>k v0 v1 v2 v3 v4 v5⟩
abbrev abj:eL R 28:=⟨⟩
instance {R:Type}:CoeFun (eL R 29) (fun _=>PV→(List PV→List PV→List PV→List PV→List PV→List PV→Int→Int→Int→Int→Int→Int→Bool→Int→Int→Bool→Bool→Int→Bool→List PV→Int→Option R)→Option R):=⟨fun _=>fun p k=>(Ab.asAgg 21 p).bind fun _=>(aw 4 (cell p 0)).bind fun v0=>(aw 3 (cell p 1)).bind fun v1=>(aw 8 (cell p 2)).bind fun v2=>(aw 5 (cell p 3)).bind fun v3=>(aw 4 (cell p 4)).bind fun v4=>(aw 6 (cell p 5)).bind fun v5=>(Ab.asInt .i64 (cell p 6)).bind fun v6=>(Ab.asInt .i64 (cell p 7)).bind fun v7=>(Ab.asInt .i64 (cell p 8)).bind fun v8=>(Ab.asInt .i64 (cell p 9)).bind fun v9=>(Ab.asInt .i64 (cell p 10)).bind fun v10=>(Ab.asInt .i64 (cell p 11)).bind fun v11=>(Ab.asBool (cell p 12)).bind fun v12=>(Ab.asInt .i64 (cell p 13)).bind fun v13=>(Ab.asInt .i64 (cell p 14)).bind fun v14=>(Ab.asBool (cell p 15)).bind fun v15=>(Ab.asBool (cell p 16)).bind fun v16=>(Ab.asInt .i64 (cell p 17)).bind fun v17=>(Ab.asBool (cell p 18)).bind fun v18=>(aw 9 (cell p 19)).bind fun v19=>(Ab.asInt .i64 (cell p 20)).bind fun v20=>k v0 v1 v2 v3 v4 v5 v6 v7 v8 v9 v10 v11 v12 v13 v14 v15 v16 v17 v18 v19 v20⟩
abbrev qD:eL R 29:=⟨⟩
instance {R:Type}:CoeFun (eL R 30) (fun _=>PV→(List PV→Int→Int→Int→Int→Int→List PV→Option R)→Option R):=⟨fun _=>fun p k=>(Ab.asAgg 7 p).bind fun _=>(aw 9 (cell p 0)).bind fun v0=>(Ab.asInt .i64 (cell p 1)).bind fun v1=>(Ab.asInt .i64 (cell p 2)).bind fun v2=>(Ab.asInt .i64 (cell p 3)).bind fun v3=>(Ab.asInt .i64 (cell p 4)).bind fun v4=>(Ab.asInt .i64 (cell p 5)).bind fun v5=>(aw 4 (cell p 6)).bind fun v6=>k v0 v1 v2 v3 v4 v5 v6⟩
abbrev QY:eL R 30:=⟨⟩
instance {R:Type}:CoeFun (eL R 31) (fun _=>PV→(Int→Int→Int→Int→Int→Option R)→Option R):=⟨fun _=>fun p k=>(Ab.asAgg 5 p).bind fun _=>(Ab.asInt .i64 (cell p 0)).bind fun v0=>(Ab.asInt .i64 (cell p 1)).bind fun v1=>(Ab.asInt .i64 (cell p 2)).bind fun v2=>(Ab.asInt .i64 (cell p 3)).bind fun v3=>(Ab.asInt .i64 (cell p 4)).bind fun v4=>k v0 v1 v2 v3 v4⟩
abbrev QZ:eL R 31:=⟨⟩
instance:CoeFun (eL Unit 32) (fun _=>Int→Int→Int→Bool→Int→Int→Bool→Bool→Int→Bool→PV):=⟨fun _=>fun v0 v1 v2 v3 v4 v5 v6 v7 v8 v9=>.agg [.int .i64 v0,.int .i64 v1,.int .i64 v2,.bool v3,.int .i64 v4,.int .i64 v5,.bool v6,.bool v7,.int .i64 v8,.bool v9]⟩
abbrev Mh:eL Unit 32:=⟨⟩
instance:CoeFun (eL Unit 33) (fun _=>Int→Int→Int→Int→Int→PV):=⟨fun _=>fun v0 v1 v2 v3 v4=>.agg [.int .i64 v0,.int .i64 v1,.int .i64 v2,.int .i64 v3,.int .i64 v4]⟩
abbrev adt:eL Unit 33:=⟨⟩
instance:CoeFun (eL Unit 34) (fun _=>List PV→List PV→List PV→List PV→List PV→List PV→List PV→List PV→List PV→List PV→Int→Int→Int→PV):=⟨fun _=>fun v0 v1 v2 v3 v4 v5 v6 v7 v8 v9 v10 v11 v12=>.agg [.rs 4 v0,.rs 3 v1,.rs 10 v2,.rs 3 v3,.rs 5 v4,.rs 4 v5,.rs 2 v6,.rs 3 v7,.rs 4 v8,.rs 6 v9,.int .i64 v10,.int .i64 v11,.int .i64 v12]⟩
abbrev XU:eL Unit 34:=⟨⟩
instance:CoeFun (eL Unit 35) (fun _=>List PV→List PV→List PV→List PV→List PV→List PV→Int→Int→Int→PV):=⟨fun _=>fun v0 v1 v2 v3 v4 v5 v6 v7 v8=>.agg [.rs 4 v0,.rs 3 v1,.rs 8 v2,.rs 5 v3,.rs 4 v4,.rs 6 v5,.int .i64 v6,.int .i64 v7,.int .i64 v8]⟩
abbrev qR:eL Unit 35:=⟨⟩
instance:CoeFun (eL Unit 36) (fun _=>List PV→List PV→List PV→List PV→List PV→List PV→Int→Int→Int→Int→Int→Int→Bool→Int→Int→Bool→Bool→Int→Bool→List PV→Int→PV):=⟨fun _=>fun v0 v1 v2 v3 v4 v5 v6 v7 v8 v9 v10 v11 v12 v13 v14 v15 v16 v17 v18 v19 v20=>.agg [.rs 4 v0,.rs 3 v1,.rs 8 v2,.rs 5 v3,.rs 4 v4,.rs 6 v5,.int .i64 v6,.int .i64 v7,.int .i64 v8,.int .i64 v9,.int .i64 v10,.int .i64 v11,.bool v12,.int .i64 v13,.int .i64 v14,.bool v15,.bool v16,.int .i64 v17,.bool v18,.rs 9 v19,.int .i64 v20]⟩
abbrev kE:eL Unit 36:=⟨⟩
instance:CoeFun (eL Unit 37) (fun _=>List PV→Int→Int→Int→Int→Int→List PV→PV):=⟨fun _=>fun v0 v1 v2 v3 v4 v5 v6=>.agg [.rs 9 v0,.int .i64 v1,.int .i64 v2,.int .i64 v3,.int .i64 v4,.int .i64 v5,.rs 4 v6]⟩
abbrev adu:eL Unit 37:=⟨⟩
instance {R:Type}:CoeFun (eL R 38) (fun _=>PV→Nat→(Int→Option R)→Option R):=⟨fun _=>fun p j k=>(Ab.asInt .i64 (cell p j)).bind k⟩
abbrev aJ:eL R 38:=⟨⟩
instance {R:Type}:CoeFun (eL R 39) (fun _=>PV→Nat→(Bool→Option R)→Option R):=⟨fun _=>fun p j k=>(Ab.asBool (cell p j)).bind k⟩
abbrev jE:eL R 39:=⟨⟩
instance {R:Type}:CoeFun (eL R 40) (fun _=>Nat→PV→Nat→(List PV→Option R)→Option R):=⟨fun _=>fun s p j k=>(aw s (cell p j)).bind k⟩
abbrev gN:eL R 40:=⟨⟩
instance {R:Type}:CoeFun (eL R 41) (fun _=>PV→(Int→Option R)→Option R):=⟨fun _=>fun p k=>(Ab.asInt .i64 p).bind k⟩
abbrev dy:eL R 41:=⟨⟩
instance {R:Type}:CoeFun (eL R 42) (fun _=>PV→(Bool→Option R)→Option R):=⟨fun _=>fun p k=>(Ab.asBool p).bind k⟩
abbrev mcb:eL R 42:=⟨⟩
instance {R:Type}:CoeFun (eL R 43) (fun _=>Nat→PV→(Unit→Option R)→Option R):=⟨fun _=>fun n p k=>(Ab.asAgg n p).bind k⟩
abbrev lL:eL R 43:=⟨⟩
instance {R:Type}:CoeFun (eL R 44) (fun _=>List PV→Nat→(Int→Option R)→Option R):=⟨fun _=>fun p j k=>(Ab.asInt .i64 (p.getD j .bad)).bind k⟩
abbrev mcG:eL R 44:=⟨⟩
instance {R:Type}:CoeFun (eL R 45) (fun _=>(List PV→Option PV)→List PV→(Int→Option R)→Option R):=⟨fun _=>fun f l k=>(f l).bind fun r=>(Ab.asInt .i64 r).bind k⟩
abbrev sC:eL R 45:=⟨⟩
instance {R:Type}:CoeFun (eL R 46) (fun _=>(List PV→Option PV)→List PV→(Bool→Option R)→Option R):=⟨fun _=>fun f l k=>(f l).bind fun r=>(Ab.asBool r).bind k⟩
abbrev iN:eL R 46:=⟨⟩
instance {R:Type}:CoeFun (eL R 47) (fun _=>List PV→Int→(PV→Option R)→Option R):=⟨fun _=>fun l i k=>(fM l i).bind k⟩
abbrev cm:eL R 47:=⟨⟩
instance {R:Type}:CoeFun (eL R 48) (fun _=>(List PV→Option PV)→List PV→(PV→Option R)→Option R):=⟨fun _=>fun f l k=>(f l).bind k⟩
abbrev eT:eL R 48:=⟨⟩
instance {R:Type}:CoeFun (eL R 49) (fun _=>Bool→Option Bool→(Bool→Option R)→Option R):=⟨fun _=>fun c x k=>(bif c then some true else x).bind k⟩
abbrev dh:eL R 49:=⟨⟩
instance {R:Type}:CoeFun (eL R 50) (fun _=>Bool→Option Bool→(Bool→Option R)→Option R):=⟨fun _=>fun c x k=>(bif c then x else some false).bind k⟩
abbrev eA:eL R 50:=⟨⟩
instance {R:Type}:CoeFun (eL R 51) (fun _=>List PV→Int→(PV→Option R)→Option R):=⟨fun _=>fun l i k=>if au i l.length then l[i.toNat]?.bind k else none⟩
abbrev DZ:eL R 51:=⟨⟩
instance:CoeFun (eL Unit 52) (fun _=>Int→Int):=⟨fun _=>IntKind.i64.wrap⟩
abbrev ay:eL Unit 52:=⟨⟩
instance:CoeFun PV (fun _=>Nat→PV):=⟨cell⟩
instance:Coe Int PV:=⟨.int .i64⟩
def tf:Bytes:=[114,117,110,32]
def lf:Bytes:=[32,111,102,32,100,97,121,32]
def uc:Bytes:=[32,105,115,32,115,99,104,101,100,117,108,101,100]
def yU:Bytes:=[44,32,115,116,97,114,116,32]
def jq:Bytes:=[32,105,115,32,97,100,100,101,100,32,98,121,32,97,110,32,101,120,99,101,112,116,105,111,110]
def sD:Bytes:=[32,105,115,32,97,100,100,105,116,105,111,110,97,108]
def gD:Bytes:=[100,101,112,97,114,116,115,32,97,116,32]
def iT:Bytes:=[44,32,97,114,114,105,118,101,115,32,97,116,32]
def pt:Bytes:=[32,115,101,99,111,110,100,115,32,108,97,116,101]
def og:Bytes:=[32,115,101,99,111,110,100,115,32,101,97,114,108,121]
def JM:Bytes:=[98,111,97,114,100,105,110,103,32,97,116,32]
def GY:Bytes:=[97,108,105,103,104,116,105,110,103,32,97,116,32]
def dD:Bytes:=[32,115,101,99,111,110,100,115,32,102,111,114,32,116,104,101,32,99,104,97,110,103,101,32,97,116,32]
def Mi:Bytes:=[32,97,114,101,32,110,101,101,100,101,100]
def Gi:Bytes:=[115,116,97,121,115,32,111,110,32,98,111,97,114,100]
def oh:Bytes:=[103,117,97,114,97,110,116,101,101,100,32,99,104,97,110,103,101,32,119,105,116,104,32]
def Ii:Bytes:=[32,115,101,99,111,110,100,115]
def Q0:Bytes:=[119,97,108,107,115,32]
def Gj:Bytes:=[116,105,99,107,101,116,32]
def abk:Bytes:=[32,102,111,114,32]
def XV:Bytes:=[108,101,103,32]
def PM:Bytes:=[100,97,105,108,121]
def Lg:Bytes:=[115,105,110,103,108,101]
def jR:Bytes:=[108,101,103,32,49,58,32,114,117,110,32,120,32,111,102,32,100,97,121,32,48,32,105,115,32,115,99,104,101,100,117,108,101,100]
def dH:Bytes:=[108,101,103,32,49,58,32,100,101,112,97,114,116,115,32,97,116,32,49,54,48,44,32,97,114,114,105,118,101,115,32,97,116,32,50,48,48,44,32,54,48,32,115,101,99,111,110,100,115,32,108,97,116,101]
abbrev TY0:=List PV×Int×Int×List PV×List PV×List PV×List PV×List PV×List PV×Int×Int×Int×Int×Int×Int×List (PV×PV)×List (PV×PV)×List (PV×PV)×Unit
abbrev TY1:=List PV×List PV×Int×Int×Int×Unit
abbrev TY2:=PV×List PV×Int×Int×List PV×Int×PV×PV×PV×List PV×Unit
abbrev TY3:=Int×PV×List PV×Int×Int×Int×List PV×PV×PV×PV×List PV×Unit
abbrev TY4:=Int×PV×Int×Int×Int×Int×PV×PV×PV×List PV×List PV×Unit
abbrev TY5:=Int×PV×Int×List PV×List PV×Unit
abbrev TY6:=Bool×List PV×Int×Int×List (PV×PV)×Unit
abbrev TY7:=Int×Bool×List PV×Int×Int×List (PV×PV)×Unit
abbrev TY8:=List PV×List PV×Int×Int×List PV×Unit
abbrev TY9:=List PV×List PV×Int×Int×Int×List PV×Int×Int×List PV×Unit
abbrev agE:=Int×List PV×Int×Int×List (PV×PV)×Unit
abbrev ZV:=List PV×Int×Int×List PV×List PV×List PV×List PV×List PV×List PV×Int×Int×Int×Int×Int×Int×List (PV×PV)×Unit
abbrev agF:=List PV×Int×Int×Int×Int×Int×Unit
abbrev XW:=List PV×Int×Int×List (PV×PV)×Unit
abbrev adv:=List PV×Int×Bool×Int×List PV×Unit
abbrev aij:=List PV×Int×Bool×Int×Int×List PV×List PV×Unit
abbrev acG:=Int×List PV×List PV×Int×List PV×Unit
abbrev aik:=Int×List PV×List PV×Int×Int×List PV×Unit
abbrev ail:=Int×List PV×List PV×List PV×List PV×List PV×List PV×Int×Int×Int×Unit
abbrev aim:=List PV×Int×Int×Bytes×Int×Int×Int×Int×Int×Int×Int×Unit
abbrev acn:=Int×Int×Int×List PV×Int×Int×Int×List PV×List PV×List PV×Unit
abbrev ain:=Int×Int×Int×Int×Int×List PV×Int×Int×Int×List PV×List PV×List PV×Unit
abbrev aco:=Int×Int×List PV×Int×Int×Int×List PV×List PV×List PV×Unit
abbrev aio:=List PV×Int×List PV×Int×Int×Int×List PV×List PV×Unit
abbrev aip:=Int×List PV×Int×Int×List PV×List PV×List PV×List PV×List PV×List PV×Int×Int×Int×Unit
abbrev aiq:=Bool×List PV×Int×Int×List PV×List PV×List PV×List PV×List PV×List PV×Int×Int×Int×List PV×Unit
abbrev air:=Int×List PV×Int×Int×List PV×List PV×List PV×List PV×List PV×List PV×Int×Int×Int×Int×Int×Int×Bool×Int×Int×Bool×Bool×Int×Bool×List PV×PV×PV×PV×PV×PV×PV×PV×PV×PV×Unit
abbrev ais:=Bool×List PV×Int×Int×PV×PV×PV×PV×PV×PV×PV×PV×PV×PV×PV×PV×PV×PV×PV×PV×PV×PV×Unit
abbrev ait:=Int×List PV×Int×Int×List PV×List PV×List PV×List PV×List PV×List PV×Int×Int×Int×Int×Int×Int×Bool×Int×Int×Bool×Bool×Int×Bool×List PV×Int×PV×PV×PV×PV×PV×PV×PV×PV×PV×Unit
abbrev aiu:=List PV×List PV×List PV×List PV×List PV×List PV×List PV×Int×Int×Int×Int×Int×Int×Bool×Int×Int×Bool×Bool×Int×Bool×List PV×Int×Unit
abbrev aiv:=Int×Int×Int×List PV×Int×Int×PV×PV×PV×PV×PV×PV×PV×PV×PV×PV×Unit
abbrev agG:=Int×Int×List PV×Int×Int×PV×PV×PV×PV×List PV×Unit
abbrev aiw:=Int×Int×Int×Int×List PV×Int×Int×PV×PV×PV×PV×List PV×Unit
abbrev agH:=Int×List PV×Int×Int×List PV×Unit
abbrev aix:=Bool×List PV×Int×Int×Bool×Int×Int×Int×Int×Int×Int×Int×Bool×Bool×Int×Int×Int×Int×Int×Int×Int×Bool×Unit
abbrev aiy:=PV×List PV×Int×Int×Bool×Int×Int×Int×Int×Int×Int×Int×Bool×Unit
def qg(L:bB)(p0 p1:PV):Option PV:=dy p0 fun a=>dy p1 fun b=>if(a !=a)=true then if(b !=b)=true then some (PV.int .i64 0)else some (PV.int .i64 (-1))else if(b !=b)=true then some (PV.int .i64 1)else if decide (a<b)=true then some (PV.int .i64 (-1))else if decide (a>b)=true then some (PV.int .i64 1)else some (PV.int .i64 0)
def eR:List PV→Option PV|[p0,p1]=>qg bn p0 p1|_=>none
def ey:iM (Int×List PV×Int×Int×Unit):=fun(a,b,c,d,_)=>fun e=>if decide (d<c)=true then cm b d fun f=>aJ f 0 fun f=>if(f !=a)=true then some (f)else e (a,b,c,ay (d+1),())
else some (a)
def Am(L:bB)(p0:PV):Option PV:=(aw 1 p0).bind fun a=>L.run ey (0,a,(↑a.length:Int),0,())
def qQ:List PV→Option PV|[p0]=>Am bn p0|_=>none
def mF(L:bB)(p0 p1:PV):Option PV:=agD p0 fun a b c _=>agD p1 fun d e f _=>sC eR [a,d] fun d=>sC eR [b,e] fun e=>sC eR [c,f] fun f=>sC qQ [.rs 1 [d,e,f]] fun f=>some (f)
def cd:List PV→Option PV|[p0,p1]=>mF bn p0 p1|_=>none
def vI(L:bB)(p0:PV):Option PV:=dy p0 fun a=>eA (decide (0≤a)) (some (decide (a≤36524))) fun a=>some (PV.bool a)
def ez:List PV→Option PV|[p0]=>vI bn p0|_=>none
def vJ(L:bB)(p0:PV):Option PV:=dy p0 fun a=>iN ez [a] fun b=>if(!b)=true then some (PV.aP [.int .i64 0,.bool false])else some (PV.aP [((ay (a+5)).tmod 7),.bool true])
def ob:List PV→Option PV|[p0]=>vJ bn p0|_=>none
def mH(L:bB):iM (aiv):=fun(a,b,c,d,e,f,g,h,i,j,k,l,m,n,o,p,_)=>fun q=>if decide (f<e)=true then cm d f fun r=>aJ r 0 fun s=>dh (s !=a) (aJ r 1 fun s=>some (s !=b)) fun s=>if s=true then q (a,b,c,d,e,ay (f+1),g,h,i,j,k,l,m,n,o,p,())else jE r 2 fun s=>if s=true then some (PV.int .i64 2)else some (PV.int .i64 3)
else dh (c==3) (dy o fun s=>some (decide (b<s))) fun s=>dh s (dy p fun s=>some (decide (b>s))) fun s=>if s=true then some (c)else XS ob [b] fun s _=>if au s 7∧0<1 then[g,h,i,j,k,l,m,n,o,p][1+s.toNat*1]?.bind fun s=>mcb s fun s=>if s=true then some (PV.int .i64 1)else some (PV.int .i64 4)else none
def qi(L:bB)(p0 p1 p2 p3:PV):Option PV:=(aw 10 p0).bind fun a=>(aw 3 p1).bind fun b=>dy p2 fun c=>dy p3 fun d=>dh (decide (c<0)) (some (decide (c≥(↑a.length:Int)))) fun e=>dh e (iN ez [d] fun e=>some !e) fun e=>if e=true then some (PV.int .i64 0)else cm a c fun e=>L.run (mH L) (c,d,5,b,(↑b.length:Int),0,e 0,e 1,e 2,e 3,e 4,e 5,e 6,e 7,e 8,e 9,())
def gB:List PV→Option PV|[p0,p1,p2,p3]=>qi bn p0 p1 p2 p3|_=>none
def qj(L:bB)(p0 p1 p2 p3:PV):Option PV:=(aw 10 p0).bind fun a=>(aw 3 p1).bind fun b=>dy p2 fun c=>dy p3 fun d=>sC gB [.rs 10 a,.rs 3 b,c,d] fun d=>dh (d==1) (some (d==2)) fun d=>some (PV.bool d)
def j1:List PV→Option PV|[p0,p1,p2,p3]=>qj bn p0 p1 p2 p3|_=>none
def n9(L:bB)(p0:PV):Option PV:=dy p0 fun a=>dh (decide (a< -2305843009213693952)) (some (decide (a>2305843009213693952))) fun a=>some (PV.bool a)
def dS:List PV→Option PV|[p0]=>n9 bn p0|_=>none
def su(L:bB)(p0 p1 p2:PV):Option PV:=dy p0 fun a=>dy p1 fun b=>dy p2 fun c=>eA (ay (ay (ay (a.fdiv (2^min (Int.toNat 32) IntKind.i64.bits)-b.fdiv (2^min (Int.toNat 32) IntKind.i64.bits))+c.fdiv (2^min (Int.toNat 32) IntKind.i64.bits))+(ay (ay (ay (↑(BitVec.ofInt IntKind.i64.bits a&&&BitVec.ofInt IntKind.i64.bits 4294967295).toNat:Int)-ay (↑(BitVec.ofInt IntKind.i64.bits b&&&BitVec.ofInt IntKind.i64.bits 4294967295).toNat:Int))+ay (↑(BitVec.ofInt IntKind.i64.bits c&&&BitVec.ofInt IntKind.i64.bits 4294967295).toNat:Int))).fdiv (2^min (Int.toNat 32) IntKind.i64.bits))==0) (some (decide (ay (↑(BitVec.ofInt IntKind.i64.bits (ay (ay (ay (ay (a.fdiv (2^min (Int.toNat 32) IntKind.i64.bits)-b.fdiv (2^min (Int.toNat 32) IntKind.i64.bits))+c.fdiv (2^min (Int.toNat 32) IntKind.i64.bits))+(ay (ay (ay (↑(BitVec.ofInt IntKind.i64.bits a&&&BitVec.ofInt IntKind.i64.bits 4294967295).toNat:Int)-ay (↑(BitVec.ofInt IntKind.i64.bits b&&&BitVec.ofInt IntKind.i64.bits 4294967295).toNat:Int))+ay (↑(BitVec.ofInt IntKind.i64.bits c&&&BitVec.ofInt IntKind.i64.bits 4294967295).toNat:Int))).fdiv (2^min (Int.toNat 32) IntKind.i64.bits))*2^min (Int.toNat 32) IntKind.i64.bits))|||BitVec.ofInt IntKind.i64.bits (ay (↑(BitVec.ofInt IntKind.i64.bits (ay (ay (ay (↑(BitVec.ofInt IntKind.i64.bits a&&&BitVec.ofInt IntKind.i64.bits 4294967295).toNat:Int)-ay (↑(BitVec.ofInt IntKind.i64.bits b&&&BitVec.ofInt IntKind.i64.bits 4294967295).toNat:Int))+ay (↑(BitVec.ofInt IntKind.i64.bits c&&&BitVec.ofInt IntKind.i64.bits 4294967295).toNat:Int)))&&&BitVec.ofInt IntKind.i64.bits 4294967295).toNat:Int))).toNat:Int)≤172800))) fun d=>some (PV.aP [(ay (↑(BitVec.ofInt IntKind.i64.bits (ay (ay (ay (ay (a.fdiv (2^min (Int.toNat 32) IntKind.i64.bits)-b.fdiv (2^min (Int.toNat 32) IntKind.i64.bits))+c.fdiv (2^min (Int.toNat 32) IntKind.i64.bits))+(ay (ay (ay (↑(BitVec.ofInt IntKind.i64.bits a&&&BitVec.ofInt IntKind.i64.bits 4294967295).toNat:Int)-ay (↑(BitVec.ofInt IntKind.i64.bits b&&&BitVec.ofInt IntKind.i64.bits 4294967295).toNat:Int))+ay (↑(BitVec.ofInt IntKind.i64.bits c&&&BitVec.ofInt IntKind.i64.bits 4294967295).toNat:Int))).fdiv (2^min (Int.toNat 32) IntKind.i64.bits))*2^min (Int.toNat 32) IntKind.i64.bits))|||BitVec.ofInt IntKind.i64.bits (ay (↑(BitVec.ofInt IntKind.i64.bits (ay (ay (ay (↑(BitVec.ofInt IntKind.i64.bits a&&&BitVec.ofInt IntKind.i64.bits 4294967295).toNat:Int)-ay (↑(BitVec.ofInt IntKind.i64.bits b&&&BitVec.ofInt IntKind.i64.bits 4294967295).toNat:Int))+ay (↑(BitVec.ofInt IntKind.i64.bits c&&&BitVec.ofInt IntKind.i64.bits 4294967295).toNat:Int)))&&&BitVec.ofInt IntKind.i64.bits 4294967295).toNat:Int))).toNat:Int)),.bool d])
def lh:List PV→Option PV|[p0,p1,p2]=>su bn p0 p1 p2|_=>none
def qk(L:bB)(p0 p1 p2:PV):Option PV:=dy p0 fun a=>dy p1 fun b=>dy p2 fun c=>iN dS [a] fun d=>dh d (iN dS [b] fun d=>some d) fun d=>dh d (iN dS [c] fun d=>some d) fun d=>if d=true then XS lh [a,b,c] fun d e=>some (PV.aP [d,.bool e])else eA (decide (ay (ay (a-b)+c)≥0)) (some (decide (ay (ay (a-b)+c)≤172800))) fun e=>some (PV.aP [(ay (ay (a-b)+c)),.bool e])
def gE:List PV→Option PV|[p0,p1,p2]=>qk bn p0 p1 p2|_=>none
def dw:iM (Int×Int×Int×Int×List PV×Unit):=fun(a,b,c,d,e,_)=>fun f=>if decide (d<c)=true then DZ e d fun g=>aJ g 1 fun g=>XS gE [g,b,a] fun g h=>DZ e d fun i=>if au d (e.set d.toNat (PV.agg (i 0::PV.int .i64 g::over [] [i 2,i 3,i 4]))).length then(e.set d.toNat (PV.agg (i 0::PV.int .i64 g::over [] [i 2,i 3,i 4])))[d.toNat]?.bind fun j=>aJ j 2 fun j=>XS gE [j,b,a] fun j k=>if au d (e.set d.toNat (PV.agg (i 0::PV.int .i64 g::over [] [i 2,i 3,i 4]))).length then(e.set d.toNat (PV.agg (i 0::PV.int .i64 g::over [] [i 2,i 3,i 4])))[d.toNat]?.bind fun l=>dh (!h) (some !k) fun k=>if k=true then some (PV.aP [.rs 5 [],.int .i64 10])else f (a,b,c,ay (d+1),(e.set d.toNat (PV.agg (i 0::PV.int .i64 g::over [] [i 2,i 3,i 4]))).set d.toNat (PV.agg (l 0::l 1::PV.int .i64 j::over [] [l 3,l 4])),())else none else none
else some (PV.aP [.rs 5 e,.int .i64 0])
def me(L:bB)(p0 p1:PV):Option PV:=aad p0 fun _ _ _ _ a=>dy p1 fun b=>if((↑a.length:Int)==0)=true then some (PV.aP [.rs 5 [],.int .i64 16])else cm a 0 fun c=>aJ c 2 fun c=>if 0≤(↑a.length:Int)∧(↑a.length:Int)≤(↑a.length:Int)∧(↑a.length:Int).toNat*32≤ah∧0<32∧0<5 then L.run dw (b,c,(↑(List.take (List.replicate (↑a.length:Int).toNat (PV.agg [.int .i64 0,.int .i64 0,.int .i64 0,.bool false,.bool false])).length a++List.drop a.length (List.replicate (↑a.length:Int).toNat (PV.agg [.int .i64 0,.int .i64 0,.int .i64 0,.bool false,.bool false]))).length:Int),0,List.take (List.replicate (↑a.length:Int).toNat (PV.agg [.int .i64 0,.int .i64 0,.int .i64 0,.bool false,.bool false])).length a++List.drop a.length (List.replicate (↑a.length:Int).toNat (PV.agg [.int .i64 0,.int .i64 0,.int .i64 0,.bool false,.bool false])),())else none
def dd:List PV→Option PV|[p0,p1]=>me bn p0 p1|_=>none
def qm(L:bB)(p0:PV):Option PV:=S7 p0 fun _ a b c=>eA (decide (a≥0)) (some (decide (a<b))) fun a=>eA a (some (decide (b≤172800))) fun a=>eA a (some (decide (c≥1))) fun a=>eA a (some (decide (c≤86400))) fun a=>some (PV.bool a)
def gF:List PV→Option PV|[p0]=>qm bn p0|_=>none
def dM(Bp:agG→Option PV):iM (aiw):=fun(a,b,c,d,e,f,g,h,i,j,k,l,_)=>fun m=>eA (decide (b>0)) (if au (ay (b-1)) l.length then l[(ay (b-1)).toNat]?.bind fun n=>aJ n 0 fun n=>some (decide (n>a))else none) fun n=>if n=true then if au (ay (b-1)) l.length then l[(ay (b-1)).toNat]?.bind fun n=>aJ n 0 fun n=>DZ l b fun _=>m (a,ay (b-1),c,d,e,f,g,h,i,j,k,l.set b.toNat (PV.int .i64 n),())else none else DZ l b fun _=>dy k fun n=>Bp (ay (c+n),d,e,f,g,h,i,j,k,l.set b.toNat (PV.int .i64 a),())
def fy(L:bB)(S1:agH→Option PV):iM (agG):=fun(a,b,c,d,e,f,g,h,i,j,_)=>fun k=>dy h fun l=>if decide (a<l)=true then if(j++[PV.int .i64 a]).length*8≤ah∧0<8 then L.run (dM k) (a,(↑j.length:Int),a,b,c,d,e,f,g,h,i,j++[PV.int .i64 a],())else none else S1 (b,c,d,ay (e+1),j,())
def jo(L:bB):iM (agH):=fun(a,b,c,d,e,_)=>fun f=>if decide (d<c)=true then cm b d fun g=>aJ g 0 fun h=>if(h !=a)=true then f (a,b,c,ay (d+1),e,())else iN gF [od g] fun h=>if(!h)=true then f (a,b,c,ay (d+1),e,())else aJ g 1 fun h=>L.run (fy L f) (h,a,b,c,d,g 0,g 1,g 2,g 3,e,())
else some (PV.rs 1 e)
def lK(L:bB)(p0 p1:PV):Option PV:=(aw 4 p0).bind fun a=>dy p1 fun b=>L.run (jo L) (b,a,(↑a.length:Int),0,[],())
def gg:List PV→Option PV|[p0,p1]=>lK bn p0 p1|_=>none
def jM:iM (Int×List PV×Int×Int×Unit):=fun(a,b,c,d,_)=>fun e=>if decide (d<c)=true then cm b d fun f=>aJ f 0 fun f=>if(f==a)=true then some (PV.bool true)else e (a,b,c,ay (d+1),())
else some (PV.bool false)
def mG(L:bB)(p0 p1:PV):Option PV:=(aw 4 p0).bind fun a=>dy p1 fun b=>L.run jM (b,a,(↑a.length:Int),0,())
def dE:List PV→Option PV|[p0,p1]=>mG bn p0 p1|_=>none
def pS(L:bB)(p0 p1 p2:PV):Option PV:=S8 p0 fun _ _ a b c d _ _ _ _ _ _ _=>cD 9 p1 (aae p2 fun e _ _ _ _ _ _ _=>if(e== -1)=true then some (PV.aP [.agg [.int .i64 (-1),.int .i64 (-1),.rs 0 []],.bool true])else some (PV.aP [.agg [.int .i64 0,.int .i64 0,.rs 0 []],.bool false])) fun e f=>aae p2 fun g h i j _ _ _ _=>if(g== -1)=true then some (PV.aP [.agg [.int .i64 (-1),.int .i64 (-1),.rs 0 []],.bool true])else(Ab.asInt .i64 (b9 (PV.str j) (PV.int .i64 0) (e.zip f))).bind fun k=>dh (!sH (PV.str j) (e.zip f)) (some (k !=g)) fun j=>dh j (cm c k fun j=>aJ j 2 fun j=>iN j1 [.rs 10 a,.rs 3 b,j,h] fun j=>some !j) fun j=>if j=true then some (PV.aP [.agg [.int .i64 0,.int .i64 0,.rs 0 []],.bool false])else iN dE [.rs 4 d,k] fun j=>if(!j)=true then cm c k fun j=>gN 5 j 4 fun j=>some (PV.aP [.agg [k,.int .i64 (-1),.rs 5 j],.bool (i==0)])else eT gg [.rs 4 d,k] fun j=>(aw 1 j).bind fun j=>dh (decide (i<0)) (some (decide (i≥(↑j.length:Int)))) fun d=>if d=true then some (PV.aP [.agg [.int .i64 0,.int .i64 0,.rs 0 []],.bool false])else cm c k fun d=>cm j i fun c=>aJ c 0 fun c=>S4 dd [S5 d,c] fun c d=>cm j i fun j=>aJ j 0 fun j=>some (PV.aP [.agg [k,j,.rs 5 c],.bool (d==0)])
def jQ:List PV→Option PV|[p0,p1,p2]=>pS bn p0 p1 p2|_=>none
def jd:iM (List PV×List PV×Int×Int×Unit):=fun(a,b,c,d,_)=>fun e=>if decide (d<c)=true then cm a d fun f=>cm b d fun g=>if agC [f 0,f 1,f 2,f 3]=true∧agC [g 0,g 1,g 2,g 3]=true then if(!cz [f 0,f 1,f 2,f 3] [g 0,g 1,g 2,g 3])=true then some (PV.bool false)else e (a,b,c,ay (d+1),())else none
else some (PV.bool true)
def lG(L:bB)(p0 p1:PV):Option PV:=(aw 4 p0).bind fun a=>(aw 4 p1).bind fun b=>if((↑a.length:Int) !=(↑b.length:Int))=true then some (PV.bool false)else L.run jd (a,b,(↑a.length:Int),0,())
def ga:List PV→Option PV|[p0,p1]=>lG bn p0 p1|_=>none
def lF(L:bB)(p0 p1 p2:PV):Option PV:=lL 3 p0 fun _=>aJ p0 0 fun _=>aJ p0 1 fun _=>gN 5 p0 2 fun a=>aae p1 fun _ b _ _ _ _ _ c=>dy p2 fun d=>dh (decide (d≥(↑a.length:Int))) (cm a d fun e=>aJ e 0 fun e=>cm c d fun f=>aJ f 0 fun f=>some (e !=f)) fun f=>if f=true then some (PV.int .i64 0)else cm c d fun f=>aJ f 2 fun f=>cm a d fun d=>aJ d 2 fun d=>some ((ay (f-ay (ay (b*86400)+d))))
def fZ:List PV→Option PV|[p0,p1,p2]=>lF bn p0 p1 p2|_=>none
def oF:iM (XW):=fun(a,b,c,d,_)=>fun e=>if decide (c<b)=true then cm a c fun f=>(bG (f 0)).bind fun f=>e (a,b,ay (c+1),df (PV.str f) (PV.int .i64 c) d,())
else some (PV.rm 9 (List.map (fun x=>x.fst) d) (List.map (fun x=>x.snd) d))
def tD(L:bB)(p0:PV):Option PV:=S8 p0 fun _ _ _ _ a _ _ _ _ _ _ _ _=>L.run oF (a,(↑a.length:Int),0,[],())
def lZ:List PV→Option PV|[p0]=>tD bn p0|_=>none
def fm:iM (aix):=fun(a,b,c,d,e,f,g,h,i,j,k,l,m,n,o,p,q,r,s,t,u,v,_)=>fun w=>if decide (d<c)=true then cm b d fun x=>jE x 4 fun y=>eA (y==a) (aJ x 0 fun y=>some (y==f)) fun y=>eA y (aJ x 1 fun y=>some (y==h)) fun y=>eA y (aJ x 2 fun y=>some (y==o)) fun y=>eA y (aJ x 3 fun y=>some (y==p)) fun y=>if y=true then some (d)else w (a,b,c,ay (d+1),e,f,g,h,i,j,k,l,m,n,o,p,q,r,s,t,u,v,())
else some (PV.int .i64 0)
def qA(L:bB)(p0 p1 p2 p3:PV):Option PV:=DM 34 p0 (GX p1 fun _ _ _ _ _ _ _ _ _=>GX p2 fun _ _ _ _ _ _ _ _ _=>mcb p3 fun _=>none) fun a=>gN 4 a 0 fun _=>gN 3 a 1 fun _=>gN 10 a 2 fun _=>gN 3 a 3 fun _=>gN 5 a 4 fun _=>gN 4 a 5 fun _=>gN 2 a 6 fun _=>gN 3 a 7 fun _=>gN 4 a 8 fun _=>gN 6 a 9 fun _=>aJ a 10 fun _=>aJ a 11 fun _=>aJ a 12 fun _=>gN 4 a 13 fun _=>gN 3 a 14 fun _=>gN 8 a 15 fun _=>gN 5 a 16 fun b=>gN 4 a 17 fun _=>gN 6 a 18 fun _=>aJ a 19 fun _=>aJ a 20 fun _=>aJ a 21 fun _=>aJ a 22 fun _=>aJ a 23 fun _=>aJ a 24 fun _=>jE a 25 fun _=>aJ a 26 fun _=>aJ a 27 fun _=>jE a 28 fun _=>jE a 29 fun _=>aJ a 30 fun _=>jE a 31 fun _=>gN 9 a 32 fun _=>gN 5 a 33 fun _=>GX p1 fun a c d e f g h i j=>GX p2 fun k l m n o p q r s=>mcb p3 fun t=>L.run fm (t,b,(↑b.length:Int),0,a,c,d,e,f,g,h,i,j,k,l,m,n,o,p,q,r,s,())
def fX:List PV→Option PV|[p0,p1,p2,p3]=>qA bn p0 p1 p2 p3|_=>none
def fo:iM (aiy):=fun(a,b,c,d,e,f,g,h,i,j,k,l,m,_)=>fun n=>if decide (d<c)=true then cm b d fun o=>aJ o 0 fun p=>eA (p==i) (aJ o 1 fun p=>some (p==j)) fun p=>eA p (aJ o 2 fun p=>some (p==ay (l-k))) fun p=>eA p (jE o 3 fun p=>dh p (jE a 28 fun p=>some !p) fun p=>some p) fun p=>if p=true then some (d)else n (agz a,b,c,ay (d+1),e,f,g,h,i,j,k,l,m,())
else some (PV.int .i64 0)
def qB(L:bB)(p0 p1:PV):Option PV:=DM 34 p0 (GX p1 fun _ _ _ _ _ _ _ _ _=>none) fun a=>gN 4 a 0 fun b=>gN 3 a 1 fun c=>gN 10 a 2 fun d=>gN 3 a 3 fun e=>gN 5 a 4 fun f=>gN 4 a 5 fun g=>gN 2 a 6 fun h=>gN 3 a 7 fun i=>gN 4 a 8 fun j=>gN 6 a 9 fun k=>aJ a 10 fun l=>aJ a 11 fun m=>aJ a 12 fun n=>gN 4 a 13 fun o=>gN 3 a 14 fun p=>gN 8 a 15 fun q=>gN 5 a 16 fun r=>gN 4 a 17 fun s=>gN 6 a 18 fun t=>aJ a 19 fun u=>aJ a 20 fun v=>aJ a 21 fun w=>aJ a 22 fun x=>aJ a 23 fun y=>aJ a 24 fun z=>jE a 25 fun A=>aJ a 26 fun B=>aJ a 27 fun C=>jE a 28 fun D=>jE a 29 fun E=>aJ a 30 fun F=>jE a 31 fun G=>gN 9 a 32 fun H=>gN 5 a 33 fun a=>GX p1 fun I J K M N O P Q R=>L.run fo (PV.agg [.rs 4 b,.rs 3 c,.rs 10 d,.rs 3 e,.rs 5 f,.rs 4 g,.rs 2 h,.rs 3 i,.rs 4 j,.rs 6 k,.int .i64 l,.int .i64 m,.int .i64 n,.rs 4 o,.rs 3 p,.rs 8 q,.rs 5 r,.rs 4 s,.rs 6 t,.int .i64 u,.int .i64 v,.int .i64 w,.int .i64 x,.int .i64 y,.int .i64 z,.bool A,.int .i64 B,.int .i64 C,.bool D,.bool E,.int .i64 F,.bool G,.rs 9 H,.rs 5 a],s,(↑s.length:Int),0,I,J,K,M,N,O,P,Q,R,())
def fY:List PV→Option PV|[p0,p1]=>qB bn p0 p1|_=>none
def pW(L:bB)(p0 p1 p2:PV):Option PV:=dy p0 fun a=>dy p1 fun b=>dy p2 fun c=>eA (decide (a≥b)) (some (decide (a≤c))) fun c=>some (PV.bool c)
def bk:List PV→Option PV|[p0,p1,p2]=>pW bn p0 p1 p2|_=>none
def kY:iM (PV×Int×Int×Bool×Unit):=fun(a,b,c,d,_)=>fun e=>if d=true then if(c==b)=true then some (PV.bool true)else cD 3 a (e (a,b,0,false,())) fun f g=>(Ab.asInt .i64 (b9 (PV.int .i64 c) (PV.int .i64 0) (f.zip g))).bind fun h=>e (a,b,h,sH (PV.int .i64 c) (f.zip g),())
else some (PV.bool false)
def tT(L:bB)(p0 p1 p2:PV):Option PV:=cD 3 p0 (dy p1 fun _=>dy p2 fun a=>L.run kY (PV.uU,a,0,false,())) fun a b=>dy p1 fun c=>dy p2 fun d=>(Ab.asInt .i64 (b9 (PV.int .i64 c) (PV.int .i64 0) (a.zip b))).bind fun e=>L.run kY (PV.rm 3 a b,d,e,sH (PV.int .i64 c) (a.zip b),())
def l8:List PV→Option PV|[p0,p1,p2]=>tT bn p0 p1 p2|_=>none
def F7(L:bB)(p0 p1 p2:PV):Option PV:=dy p0 fun a=>dy p1 fun b=>dy p2 fun c=>some (PV.agg [a,b,c])
def bd:List PV→Option PV|[p0,p1,p2]=>F7 bn p0 p1 p2|_=>none
def sl(L:bB)(p0 p1:PV):Option PV:=dy p0 fun a=>dy p1 fun b=>eA (decide (a≥0)) (some (decide (a<b))) fun b=>some (PV.bool b)
def cR:List PV→Option PV|[p0,p1]=>sl bn p0 p1|_=>none
def gf:iM (TY0):=fun(a,b,c,d,e,f,g,h,i,j,k,l,m,n,o,p,q,r,_)=>fun s=>if decide (c<b)=true then cm a c fun t=>aJ t 0 fun u=>iN cR [u,(↑f.length:Int)] fun u=>dh (!u) (aJ t 2 fun u=>iN cR [u,(↑f.length:Int)] fun u=>some !u) fun u=>dh u (aJ t 0 fun u=>aJ t 2 fun v=>some (u==v)) fun v=>if v=true then eT bd [.int .i64 3,c,.int .i64 9] fun v=>lL 3 v fun _=>some (j8 v)else aJ t 0 fun v=>cm f v fun v=>gN 5 v 7 fun v=>aJ t 2 fun u=>cm f u fun u=>gN 5 u 7 fun u=>aJ t 1 fun w=>iN cR [w,(↑v.length:Int)] fun w=>dh (!w) (aJ t 3 fun w=>iN cR [w,(↑u.length:Int)] fun w=>some !w) fun w=>if w=true then eT bd [.int .i64 3,c,.int .i64 9] fun w=>lL 3 w fun _=>some (j8 w)else aJ t 0 fun w=>aJ t 1 fun y=>aJ t 2 fun z=>aJ t 3 fun A=>aJ t 0 fun B=>(Ab.asInt .i64 (b9 (PV.int .i64 B) (PV.int .i64 0) p)).bind fun _=>aJ t 1 fun C=>cm v C fun C=>aJ C 0 fun C=>aJ t 3 fun D=>cm u D fun D=>aJ D 0 fun D=>if(C !=D)=true then eT bd [.int .i64 3,c,.int .i64 13] fun D=>lL 3 D fun _=>some (j8 D)else jE t 4 fun D=>eA D (aJ t 1 fun D=>dh (ay (D+1) !=(↑v.length:Int)) (aJ t 3 fun D=>some (D !=0)) fun D=>dh D (some (sH (PV.int .i64 B) p)) fun D=>dh D (aJ t 2 fun D=>(Ab.asBool (b9 (PV.int .i64 D) (PV.bool false) q)).bind fun D=>some D) fun D=>dh D (aJ t 2 fun D=>aJ t 0 fun B=>iN l8 [PV.rm 3 (List.map (fun x=>x.fst) p) (List.map (fun x=>x.snd) p),D,B] fun B=>some B) fun B=>some B) fun B=>if B=true then eT bd [.int .i64 3,c,.int .i64 19] fun B=>lL 3 B fun _=>some (j8 B)else(Ab.asBool (b9 (PV.agg [w,y,z,A]) (PV.bool false) r)).bind fun B=>if B=true then eT bd [.int .i64 3,c,.int .i64 6] fun B=>lL 3 B fun _=>some (j8 B)else jE t 4 fun B=>if B=true then aJ t 0 fun B=>aJ t 2 fun D=>aJ t 2 fun t=>s (a,b,ay (c+1),d,e,f,g,h,i,j,k,l,m,n,o,df (PV.int .i64 B) (PV.int .i64 t) p,df (PV.int .i64 D) (PV.bool true) q,df (PV.agg [w,y,z,A]) (PV.bool true) r,())else s (a,b,ay (c+1),d,e,f,g,h,i,j,k,l,m,n,o,p,q,df (PV.agg [w,y,z,A]) (PV.bool true) r,())
else some (PV.agg [.int .i64 0,.int .i64 0,.int .i64 0])
def mB(L:bB)(p0:PV):Option PV:=wC p0 fun a b c d e f g h i=>if decide ((↑d.length:Int)>1024)=true then eT bd [.int .i64 3,.int .i64 0,.int .i64 5] fun j=>lL 3 j fun _=>some (j8 j)else L.run gf (d,(↑d.length:Int),0,a,b,c,d,e,f,g,h,i,0,0,0,[],[],[],())
def eI:List PV→Option PV|[p0]=>mB bn p0|_=>none
def oH(L:bB)(p0:PV)(c1:PV):Option PV:=dy p0 fun a=>dh (decide (a<0)) (dy c1 fun b=>some (decide (a≥b))) fun b=>some (PV.bool b)
def du:List PV→Option PV|[p0,PV.rp [c1]]=>oH bn p0 c1|_=>none
def te:iM (List PV×Int×Int×Int×Unit):=fun(a,b,c,d,_)=>fun e=>if decide (c<b)=true then cm a c fun f=>aJ f 0 fun f=>iN du [f,PV.rp [d]] fun f=>if f=true then some (PV.int .i64 9)else e (a,b,ay (c+1),d,())
else some (PV.int .i64 0)
def nV(L:bB):iM (TY1):=fun(a,b,c,d,e,_)=>fun f=>if decide (d<c)=true then cm b d fun g=>aJ g 0 fun h=>iN du [h,PV.rp [e]] fun h=>dh h (aJ g 1 fun h=>iN du [h,PV.rp [e]] fun h=>some h) fun h=>if h=true then some (PV.int .i64 9)else aJ g 2 fun h=>dh (decide (h<0)) (aJ g 2 fun h=>some (decide (h>1073741824))) fun h=>if h=true then some (PV.int .i64 2)else f (a,b,c,ay (d+1),e,())
else L.run te (a,(↑a.length:Int),0,e,())
def sq(L:bB)(p0 p1 p2:PV):Option PV:=dy p0 fun a=>(aw 3 p1).bind fun b=>(aw 1 p2).bind fun c=>dh (decide (a<0)) (some (decide (a>64))) fun d=>if d=true then some (PV.int .i64 2)else if decide ((↑b.length:Int)>4096)=true then some (PV.int .i64 5)else L.run (nV L) (c,b,(↑b.length:Int),0,a,())
def k8:List PV→Option PV|[p0,p1,p2]=>sq bn p0 p1 p2|_=>none
def tW(L:bB)(p0 p1:PV):Option PV:=S9 p0 fun _ a b=>S9 p1 fun _ c d=>dh (decide (a<c)) (eA (a==c) (some (decide (b<d))) fun d=>some d) fun d=>some (PV.bool d)
def jB:List PV→Option PV|[p0,p1]=>tW bn p0 p1|_=>none
def dW(L:bB)(c01:PV)(c02:PV)(p1 p2:PV):Option PV:=(aw 4 c01).bind fun a=>dy c02 fun _=>dy p1 fun b=>dy p2 fun c=>cm a b fun b=>cm a c fun c=>iN jB [j8 b,j8 c] fun a=>if a=true then some (PV.bool true)else iN jB [j8 c,j8 b] fun a=>if a=true then some (PV.bool false)else aJ b 3 fun a=>aJ c 3 fun c=>some (PV.bool (decide (a<c)))
def aK:List PV→Option PV|[PV.rp [PV.fn 262 [],c01,c02],p1,p2]=>dW bn c01 c02 p1 p2|_=>none
def mI(dr:PV×List PV×Int×List PV×Unit→Option PV):iM (TY2):=fun(a,_,c,d,e,f,_,_,_,j,_)=>fun _=>if decide (d<c)=true then none
else dr (a,e,f,j,())
def mC(zx:TY2→Option PV):iM (TY3):=fun(a,b,c,d,e,f,g,h,i,j,k,_)=>fun l=>eA (decide (a>0)) (iN aK [PV.rp [PV.fn 262 [],PV.rs 4 k,f],a,(ay ((ay (a-1)).tdiv 2))] fun m=>some m) fun m=>if m=true then if au (ay ((ay (a-1)).tdiv 2)) k.length then k[(ay ((ay (a-1)).tdiv 2)).toNat]?.bind fun m=>DZ k a fun n=>if au a k.length then k[a.toNat]?.bind fun _=>if au (ay ((ay (a-1)).tdiv 2)) (k.set a.toNat (od m)).length then(k.set a.toNat (od m))[(ay ((ay (a-1)).tdiv 2)).toNat]?.bind fun _=>l (ay ((ay (a-1)).tdiv 2),b,c,d,e,f,g,h,i,j,(k.set a.toNat (od m)).set (ay ((ay (a-1)).tdiv 2)).toNat (od n),())else none else none else none else zx (b,c,d,ay (e+1),g,f,h,i,j,k,())
def cG(L:bB)(dr:PV×List PV×Int×List PV×Unit→Option PV):iM (TY2):=fun(a,b,c,d,e,f,g,h,i,j,_)=>fun k=>if decide (d<c)=true then cm b d fun l=>aJ l 1 fun m=>DZ e m fun m=>aJ m 2 fun m=>if decide (m<0)=true then aJ l 1 fun m=>dy h fun n=>aJ l 2 fun l=>dy i fun o=>if(j++[PV.agg [m,(ay (n+l)),(ay (o+1)),f]]).length*32≤ah∧0<32 then L.run (mC k) (ay ((↑(j++[PV.agg [m,(ay (n+l)),(ay (o+1)),f]]).length:Int)-1),a,b,c,d,ay (f+1),e,g,h,i,j++[PV.agg [m,(ay (n+l)),(ay (o+1)),f]],())else none else k (a,b,c,ay (d+1),e,f,g,h,i,j,())
else dr (a,e,f,j,())
def dR(L:bB)(dr:PV×List PV×Int×List PV×Unit→Option PV):iM (TY4):=fun(a,b,c,d,e,f,g,h,i,j,k,_)=>fun l=>if decide (ay (ay (2*a)+1)≥(↑k.length:Int))=true then dy g fun m=>DZ j m fun m=>aJ m 2 fun m=>if decide (m≥0)=true then dr (b,j,c,k,())else dy g fun m=>DZ j m fun _=>dy g fun n=>cD 3 b (L.run (mI dr) (b,[],(↑0:Int),0,j.set m.toNat (PV.agg [g,h,i]),c,g,h,i,k,())) fun o p=>(aw 3 (b9 (PV.int .i64 n) (PV.rs 0 []) (o.zip p))).bind fun p=>L.run (cG L dr) (b,p,(↑p.length:Int),0,j.set m.toNat (PV.agg [g,h,i]),c,g,h,i,k,())
else eA (decide (ay (ay (ay (2*a)+1)+1)<(↑k.length:Int))) (iN aK [PV.rp [PV.fn 262 [],PV.rs 4 k,c],(ay (ay (ay (2*a)+1)+1)),(ay (ay (2*a)+1))] fun p=>some p) fun p=>if p=true then iN aK [PV.rp [PV.fn 262 [],PV.rs 4 k,c],(ay (ay (ay (2*a)+1)+1)),a] fun p=>if(!p)=true then dy g fun p=>DZ j p fun p=>aJ p 2 fun p=>if decide (p≥0)=true then dr (b,j,c,k,())else dy g fun p=>DZ j p fun _=>dy g fun m=>cD 3 b (L.run (mI dr) (b,[],(↑0:Int),0,j.set p.toNat (PV.agg [g,h,i]),c,g,h,i,k,())) fun o n=>(aw 3 (b9 (PV.int .i64 m) (PV.rs 0 []) (o.zip n))).bind fun n=>L.run (cG L dr) (b,n,(↑n.length:Int),0,j.set p.toNat (PV.agg [g,h,i]),c,g,h,i,k,())else if au (ay (ay (ay (2*a)+1)+1)) k.length then k[(ay (ay (ay (2*a)+1)+1)).toNat]?.bind fun n=>DZ k a fun p=>if au a k.length then k[a.toNat]?.bind fun _=>if au (ay (ay (ay (2*a)+1)+1)) (k.set a.toNat (od n)).length then(k.set a.toNat (od n))[(ay (ay (ay (2*a)+1)+1)).toNat]?.bind fun _=>l (ay (ay (ay (2*a)+1)+1),b,c,d,e,f,g,h,i,j,(k.set a.toNat (od n)).set (ay (ay (ay (2*a)+1)+1)).toNat (od p),())else none else none else none else iN aK [PV.rp [PV.fn 262 [],PV.rs 4 k,c],(ay (ay (2*a)+1)),a] fun p=>if(!p)=true then dy g fun p=>DZ j p fun p=>aJ p 2 fun p=>if decide (p≥0)=true then dr (b,j,c,k,())else dy g fun p=>DZ j p fun _=>dy g fun n=>cD 3 b (L.run (mI dr) (b,[],(↑0:Int),0,j.set p.toNat (PV.agg [g,h,i]),c,g,h,i,k,())) fun o m=>(aw 3 (b9 (PV.int .i64 n) (PV.rs 0 []) (o.zip m))).bind fun m=>L.run (cG L dr) (b,m,(↑m.length:Int),0,j.set p.toNat (PV.agg [g,h,i]),c,g,h,i,k,())else if au (ay (ay (2*a)+1)) k.length then k[(ay (ay (2*a)+1)).toNat]?.bind fun m=>DZ k a fun p=>if au a k.length then k[a.toNat]?.bind fun _=>if au (ay (ay (2*a)+1)) (k.set a.toNat (od m)).length then(k.set a.toNat (od m))[(ay (ay (2*a)+1)).toNat]?.bind fun _=>l (ay (ay (2*a)+1),b,c,d,e,f,g,h,i,j,(k.set a.toNat (od m)).set (ay (ay (2*a)+1)).toNat (od p),())else none else none else none
def fj(L:bB):iM (PV×List PV×Int×List PV×Unit):=fun(a,b,c,d,_)=>fun e=>if((↑d.length:Int)==0)=true then some (PV.rs 3 b)
else if au 0 d.length then d[Int.toNat 0]?.bind fun f=>if au (ay ((↑d.length:Int)-1)) d.length then d[(ay ((↑d.length:Int)-1)).toNat]?.bind fun g=>if au 0 d.length then d[Int.toNat 0]?.bind fun h=>if au 0 d.length then d[Int.toNat 0]?.bind fun _=>if au (ay ((↑d.length:Int)-1)) (d.set (Int.toNat 0) (od g)).length then(d.set (Int.toNat 0) (od g))[(ay ((↑d.length:Int)-1)).toNat]?.bind fun _=>if(0:Int)≤0∧0≤ay ((↑d.length:Int)-1)∧ay ((↑d.length:Int)-1)≤(↑((d.set (Int.toNat 0) (od g)).set (ay ((↑d.length:Int)-1)).toNat (od h)).length:Int)∧4=4 then L.run (dR L e) (0,a,c,0,0,0,f 0,f 1,f 2,b,List.take ((ay ((↑d.length:Int)-1)).toNat-Int.toNat 0) ((d.set (Int.toNat 0) (od g)).set (ay ((↑d.length:Int)-1)).toNat (od h)),())else none else none else none else none else none else none
def y7(L:bB):iM (TY5):=fun(a,b,c,d,e,_)=>fun f=>eA (decide (a>0)) (iN aK [PV.rp [PV.fn 262 [],PV.rs 4 e,c],a,(ay ((ay (a-1)).tdiv 2))] fun g=>some g) fun g=>if g=true then if au (ay ((ay (a-1)).tdiv 2)) e.length then e[(ay ((ay (a-1)).tdiv 2)).toNat]?.bind fun g=>DZ e a fun h=>if au a e.length then e[a.toNat]?.bind fun _=>if au (ay ((ay (a-1)).tdiv 2)) (e.set a.toNat (od g)).length then(e.set a.toNat (od g))[(ay ((ay (a-1)).tdiv 2)).toNat]?.bind fun _=>f (ay ((ay (a-1)).tdiv 2),b,c,d,(e.set a.toNat (od g)).set (ay ((ay (a-1)).tdiv 2)).toNat (od h),())else none else none else none else L.run (fj L) (b,d,c,e,())
def gU(L:bB):iM (PV×Int×Int×Int×List PV×Unit):=fun(a,b,c,d,e,_)=>fun f=>if decide (d<c)=true then DZ e d fun _=>f (a,b,c,ay (d+1),e.set d.toNat (PV.agg [d,.int .i64 (-1),.int .i64 (-1)]),())
else L.run (y7 L) (ay ((↑1:Int)-1),a,ay (0+1),e,[PV.agg [b,.int .i64 0,.int .i64 0,.int .i64 0]],())
def qe(L:bB)(p0 p1 p2:PV):Option PV:=dy p0 fun a=>cD 3 p1 (dy p2 fun b=>if 0≤a∧a≤a∧a.toNat*24≤ah∧0<24∧0<3 then L.run (gU L) (PV.uU,b,(↑(List.replicate a.toNat (PV.agg [.int .i64 0,.int .i64 0,.int .i64 0])).length:Int),0,List.replicate a.toNat (PV.agg [.int .i64 0,.int .i64 0,.int .i64 0]),())else none) fun b c=>dy p2 fun d=>if 0≤a∧a≤a∧a.toNat*24≤ah∧0<24∧0<3 then L.run (gU L) (PV.rm 3 b c,d,(↑(List.replicate a.toNat (PV.agg [.int .i64 0,.int .i64 0,.int .i64 0])).length:Int),0,List.replicate a.toNat (PV.agg [.int .i64 0,.int .i64 0,.int .i64 0]),())else none
def gy:List PV→Option PV|[p0,p1,p2]=>qe bn p0 p1 p2|_=>none
def lJ:iM (List PV×Int×Int×List PV×Unit):=fun(a,b,c,d,_)=>fun e=>if decide (c<b)=true then cm a c fun f=>aJ f 1 fun f=>DZ d c fun _=>e (a,b,ay (c+1),d.set c.toNat (PV.int .i64 f),())
else some (PV.rs 1 d)
def oR(L:bB)(p0:PV):Option PV:=(aw 3 p0).bind fun a=>if 0≤(↑a.length:Int)∧(↑a.length:Int)≤(↑a.length:Int)∧(↑a.length:Int).toNat*8≤ah∧0<8∧0<1 then L.run lJ (a,(↑a.length:Int),0,List.replicate (↑a.length:Int).toNat (PV.int .i64 0),())else none
def jn:List PV→Option PV|[p0]=>oR bn p0|_=>none
def jK(L:bB):iM (TY6):=fun(a,b,c,d,e,_)=>fun f=>if decide (d<c)=true then cm b d fun g=>if a=true then aJ g 1 fun h=>aJ g 0 fun i=>(J6 3 (PV.int .i64 h) e).bind fun j=>if(j++[PV.agg [h,i,g 2]]).length*24≤ah∧0<24 then f (a,b,c,ay (d+1),df (PV.int .i64 h) (PV.qE 3 (j++[PV.agg [h,i,g 2]])) (uh (PV.int .i64 h) e),())else none else aJ g 0 fun j=>aJ g 0 fun i=>(J6 3 (PV.int .i64 i) e).bind fun h=>if(h++[j8 g]).length*24≤ah∧0<24 then f (a,b,c,ay (d+1),df (PV.int .i64 j) (PV.qE 3 (h++[j8 g])) (uh (PV.int .i64 i) e),())else none
else some (PV.rm 3 (List.map (fun x=>x.fst) e) (List.map (fun x=>x.snd.oA) e))
def mD(L:bB)(p0 p1:PV):Option PV:=(aw 3 p0).bind fun a=>mcb p1 fun b=>L.run (jK L) (b,a,(↑a.length:Int),0,[],())
def gz:List PV→Option PV|[p0,p1]=>mD bn p0 p1|_=>none
def ma:iM (Int×PV×Int×Int×List PV×Unit):=fun(a,b,c,d,e,_)=>fun f=>if decide (d<c)=true then eT gy [a,b,d] fun g=>(aw 3 g).bind fun g=>eT jn [.rs 3 g] fun g=>(aw 1 g).bind fun g=>DZ e d fun _=>f (a,b,c,ay (d+1),e.set d.toNat (PV.rs 1 g),())
else some (PV.aP [.rs 1 e,.int .i64 0])
def vH(L:bB)(p0 p1:PV):Option PV:=dy p0 fun a=>(aw 3 p1).bind fun b=>sC k8 [a,.rs 3 b,.rs 0 []] fun c=>if(c !=0)=true then some (PV.aP [.rs 1 [],c])else eT gz [.rs 3 b,.bool false] fun c=>cD 3 c (if 0≤a∧a≤a∧a.toNat*24≤ah∧0<24∧0<1 then L.run ma (a,PV.uU,(↑(List.replicate a.toNat (PV.rs 0 [])).length:Int),0,List.replicate a.toNat (PV.rs 0 []),())else none) fun c b=>if 0≤a∧a≤a∧a.toNat*24≤ah∧0<24∧0<1 then L.run ma (a,PV.rm 3 c b,(↑(List.replicate a.toNat (PV.rs 0 [])).length:Int),0,List.replicate a.toNat (PV.rs 0 []),())else none
def iJ:List PV→Option PV|[p0,p1]=>vH bn p0 p1|_=>none
def eb(L:bB):iM (Int×List PV×List (PV×PV)×Unit):=fun(a,b,c,_)=>fun d=>if c.isEmpty=true then eT iJ [a,.rs 3 b] fun e=>(dq 2 e).bind fun e=>(aw 1 (e.getD 0 .bad)).bind fun f=>mcG e 1 fun _=>some (PV.rs 1 f)
else sW c.length fun f=>c[f]?.bind fun e=>lL 3 e.fst fun _=>dy e.snd fun g=>aJ e.fst 0 fun h=>aJ e.fst 1 fun e=>if(b++[PV.agg [h,e,g]]).length*24≤ah∧0<24 then d (a,b++[PV.agg [h,e,g]],c.eraseIdx f,())else none
def jL(L:bB):iM (TY7):=fun(a,b,c,d,e,f,_)=>fun g=>if decide (e<d)=true then cm c e fun h=>eA b (jE h 3 fun i=>some !i) fun i=>if i=true then g (a,b,c,d,ay (e+1),f,())else aJ h 0 fun i=>aJ h 1 fun j=>(Ab.asInt .i64 (b9 (PV.agg [i,j,.bool false]) (PV.int .i64 0) f)).bind fun k=>dh (!sH (PV.agg [i,j,.bool false]) f) (aJ h 2 fun l=>some (decide (l<k))) fun l=>if l=true then aJ h 2 fun l=>g (a,b,c,d,ay (e+1),df (PV.agg [i,j,.bool false]) (PV.int .i64 l) f,())else g (a,b,c,d,ay (e+1),f,())
else if f.length≤maxLen then if(0:Int)≤0∧0≤(↑f.length:Int)∧(↑f.length:Int).toNat*24≤ah∧0<24∧0<3 then L.run (eb L) (a,List.replicate (Int.toNat 0) (PV.agg [.int .i64 0,.int .i64 0,.int .i64 0]),f,())else none else none
def mE(L:bB)(p0 p1 p2:PV):Option PV:=(aw 4 p0).bind fun a=>dy p1 fun b=>mcb p2 fun c=>L.run (jL L) (b,c,a,(↑a.length:Int),0,[],())
def eK:List PV→Option PV|[p0,p1,p2]=>mE bn p0 p1 p2|_=>none
def gV(L:bB)(JD:TY8→Option PV):iM (TY9):=fun(a,b,c,d,e,f,g,h,i,_)=>fun j=>if decide (h<g)=true then cm f h fun k=>aJ k 0 fun k=>if(c==h)=true then j (a,b,c,d,e,f,g,ay (h+1),i,())else cm b c fun l=>gN 1 l 0 fun l=>cm l h fun l=>aJ l 0 fun l=>eA (decide (k>0)) (some (decide (k≤14400))) fun m=>if m=true then if(i++[PV.agg [c,h,k,.bool (l==k)]]).length*32≤ah∧0<32 then if(l !=k)=true then eA (decide (l>0)) (some (decide (l≤14400))) fun m=>if m=true then if(i++[PV.agg [c,h,k,.bool (l==k)]]++[PV.agg [c,h,l,.bool true]]).length*32≤ah∧0<32 then j (a,b,c,d,e,f,g,ay (h+1),i++[PV.agg [c,h,k,.bool (l==k)]]++[PV.agg [c,h,l,.bool true]],())else none else j (a,b,c,d,e,f,g,ay (h+1),i++[PV.agg [c,h,k,.bool (l==k)]],())else j (a,b,c,d,e,f,g,ay (h+1),i++[PV.agg [c,h,k,.bool (l==k)]],())else none else if(l !=k)=true then eA (decide (l>0)) (some (decide (l≤14400))) fun m=>if m=true then if(i++[PV.agg [c,h,l,.bool true]]).length*32≤ah∧0<32 then j (a,b,c,d,e,f,g,ay (h+1),i++[PV.agg [c,h,l,.bool true]],())else none else j (a,b,c,d,e,f,g,ay (h+1),i,())else j (a,b,c,d,e,f,g,ay (h+1),i,())
else JD (a,b,d,ay (e+1),i,())
def gW(L:bB):iM (TY8):=fun(d,e,f,g,h,_)=>fun i=>if decide (g<f)=true then cm d g fun j=>gN 1 j 0 fun j=>L.run (gV L i) (d,e,g,f,g,j,(↑j.length:Int),0,h,())
else if 4=4∧h.length≤ah∧Nat.blt 236 D4=true then(xn 4 (fun c a b=>cd [a,b]) h).bind fun agI=>some (PV.rs 4 agI)else none
def oS(L:bB)(p0 p1:PV):Option PV:=(aw 4 p0).bind fun a=>dy p1 fun b=>eT eK [.rs 4 a,b,.bool false] fun c=>(aw 1 c).bind fun c=>eT eK [.rs 4 a,b,.bool true] fun b=>(aw 1 b).bind fun b=>L.run (gW L) (c,b,(↑c.length:Int),0,[],())
def fV:List PV→Option PV|[p0,p1]=>oS bn p0 p1|_=>none
def nP:iM (agE):=fun(a,b,c,d,e,_)=>fun f=>if decide (d<c)=true then cm b d fun g=>aJ g 0 fun h=>aJ g 1 fun i=>jE g 3 fun j=>aJ g 0 fun k=>if decide (k<0)=true then some (PV.aP [d,.int .i64 9])else aJ g 0 fun k=>if decide (k≥a)=true then some (PV.aP [d,.int .i64 9])else aJ g 1 fun k=>if decide (k<0)=true then some (PV.aP [d,.int .i64 9])else aJ g 1 fun k=>if decide (k≥a)=true then some (PV.aP [d,.int .i64 9])else aJ g 0 fun k=>aJ g 1 fun l=>if(k==l)=true then some (PV.aP [d,.int .i64 9])else aJ g 2 fun l=>if decide (l<1)=true then some (PV.aP [d,.int .i64 2])else aJ g 2 fun l=>if decide (l>14400)=true then some (PV.aP [d,.int .i64 2])else(Ab.asBool (b9 (PV.agg [h,i,.bool j]) (PV.bool false) e)).bind fun l=>if l=true then some (PV.aP [d,.int .i64 6])else f (a,b,c,ay (d+1),df (PV.agg [h,i,.bool j]) (PV.bool true) e,())
else some (PV.aP [.int .i64 0,.int .i64 0])
def sm(L:bB)(p0 p1:PV):Option PV:=(aw 4 p0).bind fun a=>dy p1 fun b=>L.run nP (b,a,(↑a.length:Int),0,[],())
def iI:List PV→Option PV|[p0,p1]=>sm bn p0 p1|_=>none
def kB:iM (List PV×List PV×Int×Int×Unit):=fun(a,b,c,d,_)=>fun e=>if decide (d<c)=true then cm b d fun f=>cm a d fun g=>if lN (Kd.int .i64::[].append (Kd.int .i64::[].append (Kd.int .i64::[].append (Kd.bool::[].append [])))) [f 0,f 1,f 2,f 3]=true∧lN (Kd.int .i64::[].append (Kd.int .i64::[].append (Kd.int .i64::[].append (Kd.bool::[].append [])))) [g 0,g 1,g 2,g 3]=true then if(!cz [f 0,f 1,f 2,f 3] [g 0,g 1,g 2,g 3])=true then some (PV.bool false)else e (a,b,c,ay (d+1),())else none
else some (PV.bool true)
def nR(L:bB)(p0 p1:PV):Option PV:=(aw 4 p0).bind fun a=>dy p1 fun b=>if decide (b>64)=true then some (PV.bool false)else kD iI [.rs 4 a,b] fun _ c=>if(c !=0)=true then some (PV.bool false)else eT fV [.rs 4 a,.int .i64 (if 0>b then 0 else b)] fun c=>(aw 4 c).bind fun c=>if((↑c.length:Int) !=(↑a.length:Int))=true then some (PV.bool false)else L.run kB (a,c,(↑c.length:Int),0,())
def gS:List PV→Option PV|[p0,p1]=>nR bn p0 p1|_=>none
def cv:iM (ZV):=fun(a,b,c,d,e,f,g,h,i,j,k,l,m,n,o,p,_)=>fun q=>if decide (c<b)=true then cm a c fun r=>aJ r 0 fun s=>aJ r 1 fun t=>jE r 3 fun u=>aJ r 0 fun v=>iN cR [v,(↑d.length:Int)] fun v=>dh (!v) (aJ r 1 fun v=>iN cR [v,(↑d.length:Int)] fun v=>some !v) fun v=>dh v (aJ r 0 fun v=>aJ r 1 fun w=>some (v==w)) fun w=>if w=true then eT bd [.int .i64 4,c,.int .i64 9] fun w=>lL 3 w fun _=>some (j8 w)else aJ r 2 fun w=>dh (decide (w<1)) (aJ r 2 fun w=>some (decide (w>14400))) fun w=>if w=true then eT bd [.int .i64 4,c,.int .i64 2] fun w=>lL 3 w fun _=>some (j8 w)else(Ab.asBool (b9 (PV.agg [s,t,.int .i64 0,.bool u]) (PV.bool false) p)).bind fun w=>if w=true then eT bd [.int .i64 4,c,.int .i64 6] fun w=>lL 3 w fun _=>some (j8 w)else q (a,b,ay (c+1),d,e,f,g,h,i,j,k,l,m,n,o,df (PV.agg [s,t,.int .i64 0,.bool u]) (PV.bool true) p,())
else iN gS [.rs 4 h,(↑d.length:Int)] fun w=>if(!w)=true then eT bd [.int .i64 4,.int .i64 0,.int .i64 18] fun w=>lL 3 w fun _=>some (j8 w)else some (PV.agg [.int .i64 0,.int .i64 0,.int .i64 0])
def mA(L:bB)(p0:PV):Option PV:=wC p0 fun a b c d e f g h i=>L.run cv (e,(↑e.length:Int),0,a,b,c,d,e,f,g,h,i,0,0,0,[],())
def cF:List PV→Option PV|[p0]=>mA bn p0|_=>none
def FX(L:bB)(p0 p1 p2 p3 p4:PV):Option PV:=(aw 5 p0).bind fun a=>dy p1 fun b=>dy p2 fun c=>dy p3 fun d=>dy p4 fun e=>cm a b fun f=>aJ f 0 fun g=>dh (decide (g<0)) (aJ f 0 fun g=>some (decide (g≥c))) fun g=>if g=true then some (PV.int .i64 9)else eA (decide (b>0)) (cm a (ay (b-1)) fun g=>aJ g 0 fun g=>aJ f 0 fun c=>some (g==c)) fun c=>if c=true then some (PV.int .i64 13)else aJ f 1 fun c=>dh (decide (c<d)) (aJ f 1 fun c=>aJ f 2 fun d=>some (decide (c>d))) fun d=>dh d (aJ f 2 fun d=>some (decide (d>e))) fun d=>dh d (eA (decide (b>0)) (aJ f 1 fun d=>cm a (ay (b-1)) fun b=>aJ b 2 fun b=>some (decide (d<b))) fun b=>some b) fun b=>if b=true then some (PV.int .i64 10)else some (PV.int .i64 0)
def vD:List PV→Option PV|[p0,p1,p2,p3,p4]=>FX bn p0 p1 p2 p3 p4|_=>none
def tR:iM (agF):=fun(a,b,c,d,e,f,_)=>fun g=>if decide (f<e)=true then sC vD [.rs 5 a,f,b,c,d] fun h=>if(h !=0)=true then some (PV.aP [f,h])else g (a,b,c,d,e,ay (f+1),())
else some (PV.aP [.int .i64 0,.int .i64 0])
def Ae(L:bB)(p0 p1 p2 p3:PV):Option PV:=(aw 5 p0).bind fun a=>dy p1 fun b=>dy p2 fun c=>dy p3 fun d=>dh (decide ((↑a.length:Int)<2)) (some (decide ((↑a.length:Int)>32))) fun e=>if e=true then some (PV.aP [.int .i64 0,.int .i64 5])else L.run tR (a,b,c,d,(↑a.length:Int),0,())
def nO:List PV→Option PV|[p0,p1,p2,p3]=>Ae bn p0 p1 p2 p3|_=>none
def si:iM (Bytes×Int×Unit):=fun(a,b,_)=>fun c=>if decide (b<(↑(List.length a):Int))=true then(Yt a b).bind fun d=>eA (decide (97≤(↑d.toNat:Int))) (some (decide ((↑d.toNat:Int)≤122))) fun e=>if e=true then c (a,ay (b+1),())else eA (decide (65≤(↑d.toNat:Int))) (some (decide ((↑d.toNat:Int)≤90))) fun e=>if e=true then c (a,ay (b+1),())else eA (decide (48≤(↑d.toNat:Int))) (some (decide ((↑d.toNat:Int)≤57))) fun e=>if e=true then c (a,ay (b+1),())else if((↑d.toNat:Int)==45)=true then c (a,ay (b+1),())else if((↑d.toNat:Int)==95)=true then c (a,ay (b+1),())else if((↑d.toNat:Int)==46)=true then c (a,ay (b+1),())else some (PV.bool false)
else eA (decide ((↑(List.length a):Int)>0)) (some (decide ((↑(List.length a):Int)≤32))) fun e=>some (PV.bool e)
def xE(L:bB)(p0:PV):Option PV:=(bG p0).bind fun a=>L.run si (a,0,())
def eu:List PV→Option PV|[p0]=>xE bn p0|_=>none
def gx:iM (ZV):=fun(a,b,c,d,e,f,g,h,i,j,k,l,m,n,o,p,_)=>fun q=>if decide (c<b)=true then cm a c fun r=>(bG (r 3)).bind fun s=>iN eu [.str s] fun s=>if(!s)=true then eT bd [.int .i64 2,c,.int .i64 12] fun s=>lL 3 s fun _=>some (j8 s)else aJ r 0 fun s=>dh (decide (s< -1)) (aJ r 2 fun s=>some (decide (s<0))) fun s=>if s=true then eT bd [.int .i64 2,c,.int .i64 2] fun s=>lL 3 s fun _=>some (j8 s)else aJ r 1 fun s=>dh (decide (s<0)) (aJ r 1 fun s=>some (decide (s>36524))) fun s=>if s=true then eT bd [.int .i64 2,c,.int .i64 11] fun s=>lL 3 s fun _=>some (j8 s)else aJ r 4 fun s=>dh (decide (s<0)) (aJ r 4 fun s=>some (decide (s≥(↑e.length:Int)))) fun s=>if s=true then eT bd [.int .i64 2,c,.int .i64 9] fun s=>lL 3 s fun _=>some (j8 s)else gN 5 r 7 fun s=>kD nO [.rs 5 s,(↑d.length:Int),.int .i64 0,.int .i64 3155932800] fun _ s=>if(s !=0)=true then eT bd [.int .i64 2,c,s] fun s=>lL 3 s fun _=>some (j8 s)else(bG (r 3)).bind fun s=>aJ r 1 fun t=>aJ r 2 fun r=>(Ab.asBool (b9 (PV.agg [.str s,t,r]) (PV.bool false) p)).bind fun u=>if u=true then eT bd [.int .i64 2,c,.int .i64 6] fun u=>lL 3 u fun _=>some (j8 u)else q (a,b,ay (c+1),d,e,f,g,h,i,j,k,l,m,n,o,df (PV.agg [.str s,t,r]) (PV.bool true) p,())
else some (PV.agg [.int .i64 0,.int .i64 0,.int .i64 0])
def nT(L:bB)(p0:PV):Option PV:=wC p0 fun a b c d e f g h i=>if decide ((↑c.length:Int)>1024)=true then eT bd [.int .i64 2,.int .i64 0,.int .i64 5] fun j=>lL 3 j fun _=>some (j8 j)else L.run gx (c,(↑c.length:Int),0,a,b,c,d,e,f,g,h,i,0,0,0,[],())
def gT:List PV→Option PV|[p0]=>nT bn p0|_=>none
def kZ:iM (agF):=fun(a,b,c,d,e,f,_)=>fun g=>if decide (c<b)=true then cm a c fun h=>aJ h 2 fun i=>if(i !=0)=true then some (j8 h)else g (a,b,ay (c+1),d,e,f,())
else some (PV.agg [.int .i64 0,.int .i64 0,.int .i64 0])
def tU(L:bB)(p0:PV):Option PV:=(aw 3 p0).bind fun a=>L.run kZ (a,(↑a.length:Int),0,0,0,0,())
def dU:List PV→Option PV|[p0]=>tU bn p0|_=>none
def sk(L:bB)(p0 p1 p2:PV):Option PV:=dy p0 fun a=>dy p1 fun b=>dy p2 fun c=>eA (decide (a≥b)) (some (decide (a≤c))) fun c=>some (PV.bool c)
def bW:List PV→Option PV|[p0,p1,p2]=>sk bn p0 p1 p2|_=>none
def oP:iM (XW):=fun(a,b,c,d,_)=>fun e=>if decide (c<b)=true then cm a c fun f=>(bG (f 0)).bind fun g=>iN eu [.str g] fun g=>if(!g)=true then some (PV.aP [c,.int .i64 12])else(bG (f 0)).bind fun g=>(Ab.asBool (b9 (PV.str g) (PV.bool false) d)).bind fun g=>if g=true then some (PV.aP [c,.int .i64 6])else aJ f 1 fun g=>iN bW [g,.int .i64 0,.int .i64 1000000] fun g=>dh (!g) (aJ f 2 fun g=>iN bW [g,.int .i64 1,.int .i64 8] fun g=>some !g) fun g=>dh g (aJ f 3 fun g=>iN bW [g,.int .i64 1,.int .i64 16] fun g=>some !g) fun g=>dh g (aJ f 4 fun g=>iN bW [g,.int .i64 0,.int .i64 86400] fun g=>some !g) fun g=>dh g (aJ f 5 fun g=>iN bW [g,.int .i64 1,.int .i64 255] fun g=>some !g) fun g=>if g=true then some (PV.aP [c,.int .i64 2])else(bG (f 0)).bind fun g=>e (a,b,ay (c+1),df (PV.str g) (PV.bool true) d,())
else some (PV.aP [.int .i64 0,.int .i64 0])
def tQ(L:bB)(p0:PV):Option PV:=Ta p0 fun a b c d=>iN bW [b,.int .i64 0,.int .i64 1000000] fun b=>dh (!b) (iN bW [c,.int .i64 0,.int .i64 86400] fun b=>some !b) fun b=>dh b (iN bW [d,.int .i64 0,.int .i64 1000000] fun b=>some !b) fun b=>if b=true then some (PV.aP [.int .i64 (-1),.int .i64 2])else if decide ((↑a.length:Int)>16)=true then some (PV.aP [.int .i64 0,.int .i64 5])else L.run oP (a,(↑a.length:Int),0,[],())
def dp:List PV→Option PV|[p0]=>tQ bn p0|_=>none
def xH(L:bB)(p0:PV):Option PV:=dy p0 fun a=>eA (decide (a≥0)) (some (decide (a<8))) fun a=>some (PV.bool a)
def tP:List PV→Option PV|[p0]=>xH bn p0|_=>none
def sj:iM (XW):=fun(a,b,c,d,_)=>fun e=>if decide (c<b)=true then cm a c fun f=>(bG (f 0)).bind fun g=>iN eu [.str g] fun g=>if(!g)=true then some (PV.aP [c,.int .i64 12])else(bG (f 0)).bind fun g=>(Ab.asBool (b9 (PV.str g) (PV.bool false) d)).bind fun g=>if g=true then some (PV.aP [c,.int .i64 6])else aJ f 1 fun g=>iN tP [g] fun g=>if(!g)=true then some (PV.aP [c,.int .i64 2])else(bG (f 0)).bind fun g=>e (a,b,ay (c+1),df (PV.str g) (PV.bool true) d,())
else some (PV.aP [.int .i64 0,.int .i64 0])
def xG(L:bB)(p0:PV):Option PV:=(aw 3 p0).bind fun a=>if decide ((↑a.length:Int)>64)=true then some (PV.aP [.int .i64 0,.int .i64 5])else L.run sj (a,(↑a.length:Int),0,[],())
def lT:List PV→Option PV|[p0]=>xG bn p0|_=>none
def tO:iM (XW):=fun(a,b,c,d,_)=>fun e=>if decide (c<b)=true then cm a c fun f=>(bG (f 0)).bind fun g=>iN eu [.str g] fun g=>if(!g)=true then some (PV.aP [c,.int .i64 12])else(bG (f 0)).bind fun g=>(Ab.asBool (b9 (PV.str g) (PV.bool false) d)).bind fun g=>if g=true then some (PV.aP [c,.int .i64 6])else aJ f 1 fun g=>dh (decide (g<0)) (aJ f 1 fun g=>some (decide (g≥16))) fun g=>dh g (aJ f 3 fun g=>some (decide (g<0))) fun g=>dh g (aJ f 3 fun g=>some (decide (g>3600))) fun g=>if g=true then some (PV.aP [c,.int .i64 2])else(bG (f 0)).bind fun g=>e (a,b,ay (c+1),df (PV.str g) (PV.bool true) d,())
else some (PV.aP [.int .i64 0,.int .i64 0])
def Ad(L:bB)(p0:PV):Option PV:=(aw 4 p0).bind fun a=>if decide ((↑a.length:Int)>64)=true then some (PV.aP [.int .i64 0,.int .i64 5])else L.run tO (a,(↑a.length:Int),0,[],())
def nN:List PV→Option PV|[p0]=>Ad bn p0|_=>none
def tV(L:bB)(p0:PV):Option PV:=wC p0 fun a b c d e f g h i=>kD nN [.rs 4 a] fun j k=>kD lT [.rs 3 b] fun l m=>eT bd [.int .i64 0,j,k] fun k=>lL 3 k fun _=>eT bd [.int .i64 1,l,m] fun m=>lL 3 m fun _=>eT dU [.rs 3 [j8 k,j8 m]] fun m=>lL 3 m fun _=>aJ m 2 fun k=>if(k==0)=true then eT gT [qR a b c d e f g h i] fun k=>lL 3 k fun _=>aJ k 2 fun l=>if(l==0)=true then eT eI [qR a b c d e f g h i] fun l=>lL 3 l fun _=>aJ l 2 fun j=>if(j==0)=true then kD dp [.agg [.rs 6 f,g,h,i]] fun j n=>eT cF [qR a b c d e f g h i] fun o=>lL 3 o fun _=>eT bd [.int .i64 5,j,n] fun n=>lL 3 n fun _=>eT dU [.rs 3 [j8 o,j8 n]] fun n=>S9 n fun n o j=>some (PV.aP [n,o,j])else aJ l 0 fun j=>aJ l 1 fun o=>aJ l 2 fun l=>some (PV.aP [j,o,l])else aJ k 2 fun l=>if(l==0)=true then kD dp [.agg [.rs 6 f,g,h,i]] fun l o=>eT cF [qR a b c d e f g h i] fun j=>lL 3 j fun _=>eT bd [.int .i64 5,l,o] fun o=>lL 3 o fun _=>eT dU [.rs 3 [j8 j,j8 o]] fun o=>S9 o fun o j l=>some (PV.aP [o,j,l])else aJ k 0 fun l=>aJ k 1 fun j=>aJ k 2 fun k=>some (PV.aP [l,j,k])else aJ m 2 fun k=>if(k==0)=true then eT eI [qR a b c d e f g h i] fun k=>lL 3 k fun _=>aJ k 2 fun j=>if(j==0)=true then kD dp [.agg [.rs 6 f,g,h,i]] fun j l=>eT cF [qR a b c d e f g h i] fun o=>lL 3 o fun _=>eT bd [.int .i64 5,j,l] fun l=>lL 3 l fun _=>eT dU [.rs 3 [j8 o,j8 l]] fun l=>S9 l fun l o j=>some (PV.aP [l,o,j])else aJ k 0 fun j=>aJ k 1 fun o=>aJ k 2 fun k=>some (PV.aP [j,o,k])else aJ m 2 fun k=>if(k==0)=true then kD dp [.agg [.rs 6 f,g,h,i]] fun k o=>eT cF [qR a b c d e f g h i] fun i=>lL 3 i fun _=>eT bd [.int .i64 5,k,o] fun o=>lL 3 o fun _=>eT dU [.rs 3 [j8 i,j8 o]] fun o=>S9 o fun o i k=>some (PV.aP [o,i,k])else aJ m 0 fun k=>aJ m 1 fun i=>aJ m 2 fun m=>some (PV.aP [k,i,m])
def eY:List PV→Option PV|[p0]=>tV bn p0|_=>none
def gQ(L:bB)(p0 p1:PV):Option PV:=wC p0 fun a b c d e f g h i=>OM p1 fun j k l m n o _ _ p q=>aac eY [qR a b c d e f g h i] fun _ _ i=>if(i !=0)=true then some (PV.int .i64 21)else iN bk [j,.int .i64 0,(ay ((↑a.length:Int)-1))] fun i=>dh (!i) (iN bk [k,.int .i64 0,(ay ((↑a.length:Int)-1))] fun i=>some !i) fun i=>dh i (iN bk [l,.int .i64 0,.int .i64 3155932800] fun i=>some !i) fun i=>dh i (iN bk [n,.int .i64 0,.int .i64 8] fun i=>some !i) fun i=>dh i (iN bk [o,.int .i64 0,.int .i64 86400] fun i=>some !i) fun i=>dh i (iN bk [p,.int .i64 0,.int .i64 255] fun i=>some !i) fun i=>dh i (eA q (some m) fun i=>some i) fun i=>if i=true then some (PV.int .i64 22)else some (PV.int .i64 0)
def dg:List PV→Option PV|[p0,p1]=>gQ bn p0 p1|_=>none
def xB(L:bB)(p0 p1:PV):Option PV:=Ta p0 fun _ _ _ a=>dy p1 fun b=>eA (decide (a>0)) (some (decide (b>a))) fun c=>if c=true then some (a)else some (b)
def po:List PV→Option PV|[p0,p1]=>xB bn p0 p1|_=>none
def oO(L:bB)(p0 p1 p2:PV):Option PV:=lL 7 p0 fun _=>jE p0 0 fun a=>aJ p0 1 fun b=>aJ p0 2 fun c=>aJ p0 3 fun _=>aJ p0 4 fun _=>aJ p0 5 fun _=>aJ p0 6 fun _=>dy p1 fun d=>dy p2 fun e=>dh (!a) (some (decide (d<b))) fun a=>dh a (eA (d==b) (some (decide (e<c))) fun a=>some a) fun a=>some (PV.bool a)
def jl:List PV→Option PV|[p0,p1,p2]=>oO bn p0 p1 p2|_=>none
def xy(L:bB)(p0 p1 p2:PV):Option PV:=dy p0 fun a=>dy p1 fun b=>dy p2 fun c=>dh (decide (b≤a)) (some (decide (IntKind.u64.wrap (IntKind.u64.wrap b-IntKind.u64.wrap a)≤IntKind.u64.wrap c))) fun c=>some (PV.bool c)
def pn:List PV→Option PV|[p0,p1,p2]=>xy bn p0 p1 p2|_=>none
def oN(L:bB)(p0 p1 p2 p3:PV):Option PV:=Ta p0 fun _ a b _=>abj p1 fun _ c _ _ _ _=>(aw 4 p2).bind fun d=>dy p3 fun e=>eA (decide (e>0)) (cm d (ay (e-1)) fun f=>aJ f 1 fun f=>cm d e fun e=>aJ e 0 fun e=>iN pn [f,e,b] fun e=>some e) fun e=>if e=true then some (PV.int .i64 (if ay (c-a)>0 then ay (c-a)else 0))else some (c)
def jj:List PV→Option PV|[p0,p1,p2,p3]=>oN bn p0 p1 p2 p3|_=>none
def oM(L:bB)(p0 p1:PV):Option PV:=(Ab.asInt IntKind.u64 p0).bind fun a=>(Ab.asInt IntKind.u64 p1).bind fun b=>some (PV.int IntKind.u64 (IntKind.u64.wrap (↑(BitVec.ofInt IntKind.u64.bits a|||BitVec.ofInt IntKind.u64.bits b).toNat:Int)))
def fU:List PV→Option PV|[p0,p1]=>oM bn p0 p1|_=>none
def nI(L:bB)(p0 p1:PV):Option PV:=(Ab.asInt IntKind.u64 p0).bind fun a=>(Ab.asInt IntKind.u64 p1).bind fun b=>some (PV.bool (IntKind.u64.wrap (↑(BitVec.ofInt IntKind.u64.bits a&&& ~~~BitVec.ofInt IntKind.u64.bits b).toNat:Int)==0))
def gR:List PV→Option PV|[p0,p1]=>nI bn p0 p1|_=>none
def tN(L:bB)(p0 p1 p2:PV):Option PV:=dy p0 fun a=>dy p1 fun b=>dy p2 fun c=>if decide (b≥a)=true then dh (decide (c<0)) (some (decide (IntKind.u64.wrap (IntKind.u64.wrap b-IntKind.u64.wrap a)>IntKind.u64.wrap c))) fun d=>some (PV.bool d)else eA (decide (c<0)) (some (decide (IntKind.u64.wrap (IntKind.u64.wrap a-IntKind.u64.wrap b)<IntKind.u64.wrap (0-IntKind.u64.wrap c)))) fun d=>some (PV.bool d)
def l7:List PV→Option PV|[p0,p1,p2]=>tN bn p0 p1 p2|_=>none
def nJ:iM (aim):=fun(a,b,c,d,e,f,g,h,i,j,k,_)=>fun l=>if decide (c<b)=true then cm a c fun m=>aJ m 2 fun n=>eT fU [.int IntKind.u64 j,.int IntKind.u64 (IntKind.u64.wrap n)] fun n=>(Ab.asInt IntKind.u64 n).bind fun n=>aJ m 3 fun m=>eT fU [.int IntKind.u64 k,.int IntKind.u64 (IntKind.u64.wrap m)] fun m=>(Ab.asInt IntKind.u64 m).bind fun m=>l (a,b,ay (c+1),d,e,f,g,h,i,n,m,())
else sC KV [.int IntKind.u64 j] fun m=>eA (decide (m≤g)) (iN gR [.int IntKind.u64 k,.int IntKind.u64 (IntKind.u64.wrap i)] fun m=>some m) fun m=>some (PV.bool m)
def sf(L:bB)(p0 p1:PV):Option PV:=abj p0 fun a b c d e f=>(aw 4 p1).bind fun g=>dh ((↑g.length:Int)==0) (some (decide ((↑g.length:Int)>c))) fun h=>dh h (cm g 0 fun h=>aJ h 0 fun h=>cm g (ay ((↑g.length:Int)-1)) fun i=>aJ i 0 fun i=>iN l7 [h,i,e] fun i=>some i) fun i=>if i=true then some (PV.bool false)else L.run nJ (g,(↑g.length:Int),0,a,b,c,d,e,f,0,0,())
def iH:List PV→Option PV|[p0,p1]=>sf bn p0 p1|_=>none
def nK(L:bB)(Bp:acn→Option PV):iM (ain):=fun(a,b,c,d,e,f,g,h,i,j,k,l,_)=>fun m=>if decide (e<d)=true then if au (ay (c+1)) 9∧0<7 then k[(ay (c+1)).toNat+0]?.bind fun n=>jE n 0 fun n=>if n=true then cm f e fun n=>if 0≤b∧b≤ay (c+1)∧ay (c+1)≤(↑l.length:Int)∧4=4∧4≠0 then iN iH [agy n,.rs 4 (List.drop b.toNat (List.take (ay (c+1)).toNat l))] fun n=>if(!n)=true then m (a,b,c,d,ay (e+1),f,g,h,i,j,k,l,())else cm f e fun n=>sC jj [.agg [.rs 6 f,g,h,i],agy n,.rs 4 l,b] fun n=>if au (ay (c+1)) 9∧0<7 then k[(ay (c+1)).toNat+0]?.bind fun o=>aJ o 1 fun o=>if au (ay (c+1)) 9∧0<7 then k[(ay (c+1)).toNat+0]?.bind fun p=>aJ p 2 fun p=>if au b 9∧0<7 then k[b.toNat+0]?.bind fun q=>iN jl [OL q,(ay (n+o)),(ay (p+1))] fun q=>if q=true then if au b 9∧0<7 then k[b.toNat+0]?.bind fun _=>m (a,b,c,d,ay (e+1),f,g,h,i,j,k.set (b.toNat+0) (PV.agg [.bool true,(ay (n+o)),(ay (p+1)),e,b,c,n]),l,())else none else m (a,b,c,d,ay (e+1),f,g,h,i,j,k,l,())else none else none else none else none else m (a,b,c,d,ay (e+1),f,g,h,i,j,k,l,())else none
else Bp (a,b,ay (c+1),f,g,h,i,j,k,l,())
def nL(L:bB)(ZR:aco→Option PV):iM (acn):=fun(a,b,c,d,e,f,g,h,i,j,_)=>fun k=>if decide (c<a)=true then L.run (nK L k) (a,b,c,(↑d.length:Int),0,d,e,f,g,h,i,j,())
else ZR (a,ay (b-1),d,e,f,g,h,i,j,())
def sg(L:bB):iM (aco):=fun(a,b,c,d,e,f,g,h,i,_)=>fun j=>if decide (b≥0)=true then L.run (nL L j) (a,b,b,c,d,e,f,g,h,i,())
else if h.length*7=63 then(Ab.asAgg 63 (PV.agg (fN 7 h))).bind fun _=>if g.length*7=63∧0<63 then if(fk 7 g.length (PV.agg (fN 7 h))).length*7=63 then some (PV.agg (fN 7 (fk 7 g.length (PV.agg (fN 7 h)))))else none else none else none
def xD(L:bB)(p0 p1:PV):Option PV:=Ta p0 fun a b c d=>(aw 4 p1).bind fun e=>if au (↑e.length:Int) 9∧0<7 then(fk 7 9 (PV.agg [.bool false,.int .i64 0,.int .i64 0,.int .i64 0,.int .i64 0,.int .i64 0,.int .i64 0,.bool false,.int .i64 0,.int .i64 0,.int .i64 0,.int .i64 0,.int .i64 0,.int .i64 0,.bool false,.int .i64 0,.int .i64 0,.int .i64 0,.int .i64 0,.int .i64 0,.int .i64 0,.bool false,.int .i64 0,.int .i64 0,.int .i64 0,.int .i64 0,.int .i64 0,.int .i64 0,.bool false,.int .i64 0,.int .i64 0,.int .i64 0,.int .i64 0,.int .i64 0,.int .i64 0,.bool false,.int .i64 0,.int .i64 0,.int .i64 0,.int .i64 0,.int .i64 0,.int .i64 0,.bool false,.int .i64 0,.int .i64 0,.int .i64 0,.int .i64 0,.int .i64 0,.int .i64 0,.bool false,.int .i64 0,.int .i64 0,.int .i64 0,.int .i64 0,.int .i64 0,.int .i64 0,.bool false,.int .i64 0,.int .i64 0,.int .i64 0,.int .i64 0,.int .i64 0,.int .i64 0]))[(↑e.length:Int).toNat+0]?.bind fun f=>L.run (sg L) ((↑e.length:Int),ay ((↑e.length:Int)-1),a,b,c,d,fk 7 9 (PV.agg [.bool false,.int .i64 0,.int .i64 0,.int .i64 0,.int .i64 0,.int .i64 0,.int .i64 0,.bool false,.int .i64 0,.int .i64 0,.int .i64 0,.int .i64 0,.int .i64 0,.int .i64 0,.bool false,.int .i64 0,.int .i64 0,.int .i64 0,.int .i64 0,.int .i64 0,.int .i64 0,.bool false,.int .i64 0,.int .i64 0,.int .i64 0,.int .i64 0,.int .i64 0,.int .i64 0,.bool false,.int .i64 0,.int .i64 0,.int .i64 0,.int .i64 0,.int .i64 0,.int .i64 0,.bool false,.int .i64 0,.int .i64 0,.int .i64 0,.int .i64 0,.int .i64 0,.int .i64 0,.bool false,.int .i64 0,.int .i64 0,.int .i64 0,.int .i64 0,.int .i64 0,.int .i64 0,.bool false,.int .i64 0,.int .i64 0,.int .i64 0,.int .i64 0,.int .i64 0,.int .i64 0,.bool false,.int .i64 0,.int .i64 0,.int .i64 0,.int .i64 0,.int .i64 0,.int .i64 0]),(fk 7 9 (PV.agg [.bool false,.int .i64 0,.int .i64 0,.int .i64 0,.int .i64 0,.int .i64 0,.int .i64 0,.bool false,.int .i64 0,.int .i64 0,.int .i64 0,.int .i64 0,.int .i64 0,.int .i64 0,.bool false,.int .i64 0,.int .i64 0,.int .i64 0,.int .i64 0,.int .i64 0,.int .i64 0,.bool false,.int .i64 0,.int .i64 0,.int .i64 0,.int .i64 0,.int .i64 0,.int .i64 0,.bool false,.int .i64 0,.int .i64 0,.int .i64 0,.int .i64 0,.int .i64 0,.int .i64 0,.bool false,.int .i64 0,.int .i64 0,.int .i64 0,.int .i64 0,.int .i64 0,.int .i64 0,.bool false,.int .i64 0,.int .i64 0,.int .i64 0,.int .i64 0,.int .i64 0,.int .i64 0,.bool false,.int .i64 0,.int .i64 0,.int .i64 0,.int .i64 0,.int .i64 0,.int .i64 0,.bool false,.int .i64 0,.int .i64 0,.int .i64 0,.int .i64 0,.int .i64 0,.int .i64 0])).set ((↑e.length:Int).toNat+0) (PV.agg (PV.bool true::over [] [f 1,f 2,f 3,f 4,f 5,f 6])),e,())else none
def pq:List PV→Option PV|[p0,p1]=>xD bn p0 p1|_=>none
def vA(L:bB)(p0 p1:PV):Option PV:=Ta p0 fun a b c d=>(aw 4 p1).bind fun e=>kD dp [.agg [.rs 6 a,b,c,d]] fun _ d=>if(d !=0)=true then some (PV.int .i64 20)else if decide ((↑e.length:Int)>8)=true then some (PV.int .i64 33)else some (PV.int .i64 0)
def kX:List PV→Option PV|[p0,p1]=>vA bn p0 p1|_=>none
def jD(L:bB):iM (aio):=fun(a,b,c,d,e,f,g,h,_)=>fun i=>if decide (b<(↑a.length:Int))=true then if au b 9∧0<7 then g[b.toNat+0]?.bind fun j=>if(h++[PV.agg [j 3,j 4,j 5,j 6]]).length*32≤ah∧0<32 then if au b 9∧0<7 then g[b.toNat+0]?.bind fun k=>aJ k 5 fun k=>i (a,ay (k+1),c,d,e,f,g,h++[PV.agg [j 3,j 4,j 5,j 6]],())else none else none else none
else g[Int.toNat 0+0]?.bind fun k=>aJ k 1 fun k=>sC po [.agg [.rs 6 c,d,e,f],k] fun k=>some (PV.aP [k,.rs 4 h,.int .i64 0])
def vC(L:bB)(p0 p1:PV):Option PV:=Ta p0 fun a b c d=>(aw 4 p1).bind fun e=>sC kX [.agg [.rs 6 a,b,c,d],.rs 4 e] fun f=>if(f !=0)=true then some (PV.aP [.int .i64 0,.rs 4 [],f])else eT pq [.agg [.rs 6 a,b,c,d],.rs 4 e] fun f=>lL 63 f fun _=>jE f 0 fun g=>if(!g)=true then some (PV.aP [.int .i64 0,.rs 4 [],.int .i64 34])else L.run (jD L) (e,0,a,b,c,d,fk 7 9 (agA f),[],())
def jm:List PV→Option PV|[p0,p1]=>vC bn p0 p1|_=>none
def Ac(L:bB)(p0:PV):Option PV:=dy p0 fun a=>dh (decide (a<0)) (some (decide (a>63))) fun b=>if b=true then some (PV.int IntKind.u64 0)else if a<0 then none else some (PV.int IntKind.u64 (IntKind.u64.wrap (1*2^min a.toNat IntKind.u64.bits)))
def nH:List PV→Option PV|[p0]=>Ac bn p0|_=>none
def Bm:iM (Int×List PV×Int×Int×Unit):=fun(a,b,c,d,_)=>fun e=>if decide (d<c)=true then cm b d fun f=>aJ f 0 fun f=>eT nH [f] fun f=>(Ab.asInt IntKind.u64 f).bind fun f=>e (IntKind.u64.wrap (↑(BitVec.ofInt IntKind.u64.bits a|||BitVec.ofInt IntKind.u64.bits f).toNat:Int),b,c,ay (d+1),())
else some (PV.int IntKind.u64 a)
def Cn(L:bB)(p0:PV):Option PV:=(aw 1 p0).bind fun a=>L.run Bm (0,a,(↑a.length:Int),0,())
def ta:List PV→Option PV|[p0]=>Cn bn p0|_=>none
def se(L:bB)(p0 p1:PV):Option PV:=wC p0 fun _ _ a _ _ _ _ _ _=>GX p1 fun _ b c d _ _ _ _ _=>eA (decide (0≤b)) (some (decide (b<(↑a.length:Int)))) fun e=>eA e (some (decide (0≤c))) fun e=>eA e (some (decide (c<d))) fun e=>eA e (cm a b fun e=>gN 5 e 7 fun e=>some (decide (d<(↑e.length:Int)))) fun e=>some (PV.bool e)
def kW:List PV→Option PV|[p0,p1]=>se bn p0 p1|_=>none
def qd(L:bB)(p0 p1:PV):Option PV:=(Ab.asInt IntKind.u64 p0).bind fun a=>dy p1 fun b=>eT nH [b] fun b=>(Ab.asInt IntKind.u64 b).bind fun b=>some (PV.int IntKind.u64 (IntKind.u64.wrap (↑(BitVec.ofInt IntKind.u64.bits a|||BitVec.ofInt IntKind.u64.bits b).toNat:Int)))
def jS:List PV→Option PV|[p0,p1]=>qd bn p0 p1|_=>none
def oK:iM (aip):=fun(a,b,c,d,e,f,g,h,i,j,k,l,m,_)=>fun n=>if decide (d<c)=true then cm b d fun o=>aJ o 0 fun o=>cm e o fun o=>aJ o 1 fun o=>eT jS [.int IntKind.u64 a,o] fun o=>(Ab.asInt IntKind.u64 o).bind fun o=>n (o,b,c,ay (d+1),e,f,g,h,i,j,k,l,m,())
else some (PV.int IntKind.u64 a)
def tM(L:bB)(p0 p1:PV):Option PV:=wC p0 fun a b c d e f g h i=>GX p1 fun _ j k l _ _ _ _ _=>cm c j fun j=>gN 5 j 7 fun j=>if 0≤k∧k≤ay (l+1)∧ay (l+1)≤(↑j.length:Int)∧5=5∧5≠0 then L.run oK (0,List.drop k.toNat (List.take (ay (l+1)).toNat j),(↑(List.drop k.toNat (List.take (ay (l+1)).toNat j)).length:Int),0,a,b,c,d,e,f,g,h,i,())else none
def l6:List PV→Option PV|[p0,p1]=>tM bn p0 p1|_=>none
def oL(L:bB):iM (aiq):=fun(a,b,c,d,e,f,g,h,i,j,k,l,m,n,_)=>fun o=>if decide (d<c)=true then cm b d fun p=>jE p 0 fun q=>eA q (iN kW [qR e f g h i j k l m,DG p] fun q=>some !q) fun q=>if q=true then some (PV.aP [.rs 4 [],.int .i64 9])else jE p 8 fun q=>eA q (jE p 0 fun q=>dh (!q) (some !a) fun q=>some q) fun q=>if q=true then some (PV.aP [.rs 4 [],.int .i64 19])else jE p 0 fun q=>if q=true then eT l6 [qR e f g h i j k l m,DG p] fun q=>(Ab.asInt IntKind.u64 q).bind fun q=>aJ p 1 fun r=>cm g r fun r=>aJ r 4 fun r=>cm f r fun r=>aJ r 1 fun r=>eT ta [.rs 1 [r]] fun r=>(Ab.asInt IntKind.u64 r).bind fun r=>jE p 8 fun s=>if(!s)=true then aJ p 6 fun s=>aJ p 7 fun t=>if(n++[PV.agg [s,t,(ay q),(ay r)]]).length*32≤ah∧0<32 then jE p 0 fun u=>o (u,b,c,ay (d+1),e,f,g,h,i,j,k,l,m,n++[PV.agg [s,t,(ay q),(ay r)]],())else none else if au (ay ((↑n.length:Int)-1)) n.length then aJ p 7 fun u=>n[(ay ((↑n.length:Int)-1)).toNat]?.bind fun t=>(n.set (ay ((↑n.length:Int)-1)).toNat (PV.agg (t 0::PV.int .i64 u::over [] [t 2,t 3])))[(ay ((↑n.length:Int)-1)).toNat]?.bind fun s=>aJ s 2 fun s=>(n.set (ay ((↑n.length:Int)-1)).toNat (PV.agg (t 0::PV.int .i64 u::over [] [t 2,t 3])))[(ay ((↑n.length:Int)-1)).toNat]?.bind fun v=>((n.set (ay ((↑n.length:Int)-1)).toNat (PV.agg (t 0::PV.int .i64 u::over [] [t 2,t 3]))).set (ay ((↑n.length:Int)-1)).toNat (PV.agg (v 0::v 1::PV.int .i64 (ay (↑(BitVec.ofInt IntKind.i64.bits s|||BitVec.ofInt IntKind.i64.bits (ay q)).toNat:Int))::over [] [v 3])))[(ay ((↑n.length:Int)-1)).toNat]?.bind fun w=>aJ w 3 fun w=>((n.set (ay ((↑n.length:Int)-1)).toNat (PV.agg (t 0::PV.int .i64 u::over [] [t 2,t 3]))).set (ay ((↑n.length:Int)-1)).toNat (PV.agg (v 0::v 1::PV.int .i64 (ay (↑(BitVec.ofInt IntKind.i64.bits s|||BitVec.ofInt IntKind.i64.bits (ay q)).toNat:Int))::over [] [v 3])))[(ay ((↑n.length:Int)-1)).toNat]?.bind fun x=>jE p 0 fun y=>o (y,b,c,ay (d+1),e,f,g,h,i,j,k,l,m,((n.set (ay ((↑n.length:Int)-1)).toNat (PV.agg (t 0::PV.int .i64 u::over [] [t 2,t 3]))).set (ay ((↑n.length:Int)-1)).toNat (PV.agg (v 0::v 1::PV.int .i64 (ay (↑(BitVec.ofInt IntKind.i64.bits s|||BitVec.ofInt IntKind.i64.bits (ay q)).toNat:Int))::over [] [v 3]))).set (ay ((↑n.length:Int)-1)).toNat (PV.agg (x 0::x 1::x 2::PV.int .i64 (ay (↑(BitVec.ofInt IntKind.i64.bits w|||BitVec.ofInt IntKind.i64.bits (ay r)).toNat:Int))::over [] [])),())else none else jE p 0 fun y=>o (y,b,c,ay (d+1),e,f,g,h,i,j,k,l,m,n,())
else some (PV.aP [.rs 4 n,.int .i64 0])
def pk(L:bB)(p0 p1:PV):Option PV:=wC p0 fun a b c d e f g h i=>lL 1 p1 fun _=>gN 9 p1 0 fun j=>aac eY [qR a b c d e f g h i] fun _ _ k=>if(k !=0)=true then some (PV.aP [.rs 4 [],.int .i64 21])else L.run (oL L) (false,j,(↑j.length:Int),0,a,b,c,d,e,f,g,h,i,[],())
def gn:List PV→Option PV|[p0,p1]=>pk bn p0 p1|_=>none
def pZ:iM (Int×List PV×Int×Int×Unit):=fun(a,b,c,d,_)=>fun e=>if decide (d<c)=true then cm b d fun f=>jE f 0 fun g=>dh g (aJ f 6 fun g=>some (decide (g<0))) fun g=>dh g (aJ f 7 fun g=>aJ f 6 fun h=>some (decide (g<h))) fun h=>dh h (aJ f 7 fun h=>aJ f 6 fun g=>some (decide (ay (h-g)>14400))) fun g=>if g=true then e (a,b,c,ay (d+1),())else aJ f 7 fun g=>aJ f 6 fun f=>e (ay (a+ay (g-f)),b,c,ay (d+1),())
else some (a)
def vz(L:bB)(p0:PV):Option PV:=lL 1 p0 fun _=>gN 9 p0 0 fun a=>L.run pZ (0,a,(↑a.length:Int),0,())
def iD:List PV→Option PV|[p0]=>vz bn p0|_=>none
def qO(L:bB)(p0 p1 p2:PV):Option PV:=wC p0 fun a b c d e f g h i=>OM p1 fun _ _ j _ _ _ _ _ _ _=>lL 1 p2 fun _=>gN 9 p2 0 fun k=>eT gn [qR a b c d e f g h i,.agg [.rs 9 k]] fun e=>(dq 2 e).bind fun e=>(aw 4 (e.getD 0 .bad)).bind fun d=>mcG e 1 fun e=>if(e !=0)=true then some (PV.aP [.agg [.int .i64 0,.int .i64 0,.int .i64 0,.int .i64 0,.int .i64 0],.rs 4 [],e])else eT jm [.agg [.rs 6 f,g,h,i],.rs 4 d] fun e=>(dq 3 e).bind fun e=>mcG e 0 fun i=>(aw 4 (e.getD 1 .bad)).bind fun h=>mcG e 2 fun e=>if(e !=0)=true then some (PV.aP [.agg [.int .i64 0,.int .i64 0,.int .i64 0,.int .i64 0,.int .i64 0],.rs 4 [],e])else sC iD [.agg [.rs 9 k]] fun e=>if decide ((↑k.length:Int)>0)=true then cm k 0 fun g=>aJ g 6 fun g=>cm k (ay ((↑k.length:Int)-1)) fun k=>aJ k 7 fun k=>some (PV.aP [.agg [g,k,(↑d.length:Int),i,e],.rs 4 h,.int .i64 0])else some (PV.aP [.agg [j,j,(↑d.length:Int),i,e],.rs 4 h,.int .i64 0])
def eG:List PV→Option PV|[p0,p1,p2]=>qO bn p0 p1 p2|_=>none
def l0:iM (air):=fun(a,b,c,d,e,f,g,h,i,j,k,l,m,n,o,p,q,r,s,t,u,v,w,y,z,A,B,C,D,E,F,G,H,_)=>fun x=>if decide (d<c)=true then cm b d fun I=>jE I 0 fun J=>eA J (jE I 8 fun J=>some !J) fun J=>if J=true then x (ay (a+1),b,c,ay (d+1),e,f,g,h,i,j,k,l,m,n,o,p,q,r,s,t,u,v,w,y,z,A,B,C,D,E,F,G,H,())else x (a,b,c,ay (d+1),e,f,g,h,i,j,k,l,m,n,o,p,q,r,s,t,u,v,w,y,z,A,B,C,D,E,F,G,H,())
else dy E fun J=>if(J !=o)=true then some (PV.int .i64 24)else eA q (dy G fun J=>some (decide (J>p))) fun J=>if J=true then some (PV.int .i64 10)else if decide (a>r)=true then some (PV.int .i64 33)else sC iD [.agg [.rs 9 y]] fun J=>if decide (J>s)=true then some (PV.int .i64 32)else eT eG [qR e f g h i j k l m,Mh n o p q r s t u v w,.agg [.rs 9 y]] fun J=>(dq 3 J).bind fun J=>(Ab.asAgg 5 (J.getD 0 .bad)).bind fun _=>(aw 4 (J.getD 1 .bad)).bind fun _=>mcG J 2 fun J=>some (J)
def qP(L:bB)(p0 p1 p2:PV):Option PV:=wC p0 fun a b c d e f g h i=>OM p1 fun j k l m n o p q r s=>lL 1 p2 fun _=>gN 9 p2 0 fun t=>cm t (ay ((↑t.length:Int)-1)) fun u=>L.run l0 (0,t,(↑t.length:Int),0,a,b,c,d,e,f,g,h,i,j,k,l,m,n,o,p,q,r,s,t,u 0,u 1,u 2,u 3,u 4,u 5,u 6,u 7,u 8,())
def iC:List PV→Option PV|[p0,p1,p2]=>qP bn p0 p1 p2|_=>none
def kx(L:bB)(p0:PV):Option PV:=qD p0 fun _ _ _ _ _ _ _ _ _ _ _ _ _ _ _ _ _ _ _ a b=>cm a b fun b=>some (DG b)
def aF:List PV→Option PV|[p0]=>kx bn p0|_=>none
def gh(L:bB)(p0:PV):Option PV:=qD p0 fun _ _ _ _ _ _ _ _ _ _ _ _ _ _ _ _ _ _ _ a b=>cm a (ay (b-1)) fun b=>some (DG b)
def bQ:List PV→Option PV|[p0]=>gh bn p0|_=>none
def fT:iM (ais):=fun(a,b,c,d,e,f,g,h,i,j,k,l,m,n,o,p,q,r,s,t,u,v,_)=>fun w=>if decide (d<c)=true then cm b d fun x=>jE x 4 fun y=>eA (y==a) (aJ x 0 fun y=>dy f fun z=>some (y==z)) fun z=>eA z (aJ x 1 fun z=>dy h fun y=>some (z==y)) fun y=>eA y (aJ x 2 fun y=>dy o fun z=>some (y==z)) fun z=>eA z (aJ x 3 fun z=>dy p fun x=>some (z==x)) fun x=>if x=true then some (PV.bool true)else w (a,b,c,ay (d+1),e,f,g,h,i,j,k,l,m,n,o,p,q,r,s,t,u,v,())
else some (PV.bool false)
def iF(L:bB)(p0 p1:PV):Option PV:=qD p0 fun a b c d e f g h i j k l m n o p q r s t u=>mcb p1 fun v=>eT bQ [kE a b c d e f g h i j k l m n o p q r s t u] fun w=>lL 9 w fun _=>eT aF [kE a b c d e f g h i j k l m n o p q r s t u] fun u=>lL 9 u fun _=>L.run fT (v,d,(↑d.length:Int),0,w 0,w 1,w 2,w 3,w 4,w 5,w 6,w 7,w 8,u 0,u 1,u 2,u 3,u 4,u 5,u 6,u 7,u 8,())
def cU:List PV→Option PV|[p0,p1]=>iF bn p0 p1|_=>none
def iG(L:bB)(p0:PV):Option PV:=qD p0 fun a b c d e f g h i j k l m n o p q r s t u=>bif G7 false (u==0)then eT aF [kE a b c d e f g h i j k l m n o p q r s t u] fun v=>lL 9 v fun _=>jE v 0 fun v=>bif G7 false !v then eT aF [kE a b c d e f g h i j k l m n o p q r s t u] fun v=>lL 9 v fun _=>jE v 8 fun v=>if v=true then some (PV.int .i64 0)else eT bQ [kE a b c d e f g h i j k l m n o p q r s t u] fun v=>lL 9 v fun _=>eT aF [kE a b c d e f g h i j k l m n o p q r s t u] fun w=>lL 9 w fun _=>jE v 0 fun x=>if(!x)=true then aJ w 6 fun x=>aJ v 7 fun y=>if decide (x<y)=true then some (PV.int .i64 28)else some (PV.int .i64 0)else aJ w 6 fun y=>aJ v 7 fun x=>aJ w 4 fun z=>cm a z fun z=>aJ z 3 fun z=>dh (decide (y≥ay (x+z))) (aJ w 6 fun z=>aJ v 7 fun v=>eA (decide (z≥v)) (iN cU [kE a b c d e f g h i j k l m n o p q r s t u,.bool false] fun v=>some v) fun v=>some v) fun v=>if v=true then some (PV.int .i64 0)else some (PV.int .i64 28)else some (PV.int .i64 0)else some (PV.int .i64 0)
def cV:List PV→Option PV|[p0]=>iG bn p0|_=>none
def fv(L:bB)(p0:PV):Option PV:=qD p0 fun a b c d e f g h i j k l m n o p q r s t u=>if decide (u>0)=true then some (PV.int .i64 0)else eT aF [kE a b c d e f g h i j k l m n o p q r s t u] fun u=>lL 9 u fun _=>aJ u 4 fun r=>if(r !=j)=true then some (PV.int .i64 24)else jE u 8 fun r=>if r=true then some (PV.int .i64 19)else jE u 0 fun r=>eA (!r) (some !(↑t.length:Int)==1) fun r=>eA r (cm t 1 fun r=>jE r 0 fun r=>some r) fun r=>eA r (cm t 1 fun r=>aJ r 6 fun r=>aJ u 7 fun q=>some (r !=q)) fun q=>if q=true then some (PV.int .i64 10)else jE u 0 fun q=>eA (!q) (some ((↑t.length:Int)==1)) fun q=>eA q (eA (!m) (aJ u 6 fun q=>some (q !=l)) fun q=>dh q (eA m (aJ u 7 fun q=>some (q !=l)) fun q=>some q) fun q=>some q) fun q=>if q=true then some (PV.int .i64 10)else eA (!m) (aJ u 6 fun q=>some (decide (q<l))) fun q=>if q=true then some (PV.int .i64 10)else eA (!m) (some s) fun q=>eA q (jE u 0 fun q=>some q) fun q=>eA q (aJ u 6 fun q=>cm a j fun j=>aJ j 3 fun j=>some (decide (q<ay (l+j)))) fun j=>if j=true then some (PV.int .i64 28)else some (PV.int .i64 0)
def cp:List PV→Option PV|[p0]=>fv bn p0|_=>none
end
end Go.Ab
